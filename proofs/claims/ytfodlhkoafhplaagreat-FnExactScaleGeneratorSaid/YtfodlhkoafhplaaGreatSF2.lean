/- Walks of functions: each computes its pure function, if that gives a value. -/
import Derived.Test.YtfodlhkoafhplaaGreatSTy
namespace Go.Proofs.YtfodlhkoafhplaaGreat
open Go
set_option linter.unusedSimpArgs false
set_option linter.unusedVariables false
set_option maxRecDepth 100000
set_option maxHeartbeats 1000000
def g_spec_l01Joined_j50 (K : Nat) (h0 : Int → Int → Option (Ex (A8 × Int) (Int))) (a4 : Int) (a7 : Int) (b6 : Bool) : Option (Ex (A8 × Int) (Int)) := (if b6 = true then h0 (IntKind.i64.wrap (0 - a7)) (IntKind.i64.wrap (a4 + 1)) else h0 a7 (IntKind.i64.wrap (a4 + 1)))
def g_spec_l01Joined_j49 (K : Nat) (h0 : Int → Int → Option (Ex (A8 × Int) (Int))) (a0 : (List Int)) (a1 : A8) (a4 : Int) (a7 : Int) (b8 : Bool) : Option (Ex (A8 × Int) (Int)) := (if b8 = true then (if 0 ≤ a4 then (if a4 < (a0.length : Int) then (if (((rd a0 a4)).tmod 2) = 0 then g_spec_l01Joined_j50 K (h0) a4 a7 false else (if a4 < 8 then g_spec_l01Joined_j50 K (h0) a4 a7 (decide ((idx8 a1 a4) = 1)) else none)) else none) else none) else some (.go a7))
def g_spec_l01Joined_l1 (K : Nat) (a0 : (List Int)) (a1 : A8) (a2 : A8) (a3 : Int) : Nat → Int → Int → Option (Ex (A8 × Int) (Int))
 | 0, _, _ => none
 | k + 1, a7, a4 => (if a4 < (a0.length : Int) then g_spec_l01Joined_j49 K (g_spec_l01Joined_l1 K a0 a1 a2 a3 k) a0 a1 a4 a7 (decide ((idx8 a2 a3) = 1)) else g_spec_l01Joined_j49 K (g_spec_l01Joined_l1 K a0 a1 a2 a3 k) a0 a1 a4 a7 false)
def g_spec_l01Joined_l0 (K : Nat) (a0 : (List Int)) (a1 : A8) (a2 : A8) : Nat → Int → A8 → Int → Option (Ex (A8 × Int) (Int × A8))
 | 0, _, _, _ => none
 | k + 1, a3, a5, b9 => (if a3 < (a0.length : Int) then (if a3 < 8 then (if (((rd a0 a3)).tmod 2) = 0 then g_spec_l01Joined_l0 K a0 a1 a2 k (a3 + 1) (upd8 a5 a3 (IntKind.u8.wrap ((idx8 a1 a3) + (idx8 a2 a3)))) b9 else (if 1 < (idx8 (upd8 a5 a3 (IntKind.u8.wrap ((idx8 a1 a3) + (idx8 a2 a3)))) a3) then some (.ret ((fun _ => 0), 0)) else ((g_spec_l01Joined_l1 K a0 a1 a2 a3 K b9 (a3 + 1)).bind (Ex.elim (fun r => some (.ret r)) (fun s => (fun (d1 : Int) => g_spec_l01Joined_l0 K a0 a1 a2 k (a3 + 1) (upd8 a5 a3 (IntKind.u8.wrap ((idx8 a1 a3) + (idx8 a2 a3)))) d1) s))))) else none) else some (.go (b9, a5)))
def g_spec_l01Joined (K : Nat) (a0 : (List Int)) (a1 : A8) (a2 : A8) : Option (A8 × Int) := ((g_spec_l01Joined_l0 K a0 a1 a2 K 0 (fun _ => 0) 1).bind (Ex.elim (fun r => some r) (fun s => (fun (c4 : Int) (a6 : A8) => some (a6, c4)) s.1 s.2)))
theorem g_spec_l01Joined_ok {K : Nat} {a0 : (List Int)} {a1 : A8} {a2 : A8} {r : (A8 × Int)} (q0 : g_spec_l01Joined K a0 a1 a2 = some r) {H : FH} {w : World} {L : OL} {s0 : Value} (b0 : RdSl (tyInt .i64) H s0 a0) (hS : St H w L) :
 Calls Tryz.prog 282 #[s0, vA (enc8 .u8 a1), vA (enc8 .u8 a2)] w (Done (fun v G => (R.t2 (R.agg (tyA8 .u8)) (R.int .i64)).p G v r) H L) := by
 have hsub := Sub.refl H
 refine calls_of_run Tryz.func282 rfl Tryz.ntmps282 rfl ?_
 unfold g_spec_l01Joined at q0
 refine run_seq (run_region ?_)
 refine r_box (v := vA (enc8 .u8 a1)) (enc8 .u8 a1).toArray rfl rfl hS rfl ?_
 intro b1 w2 hS
 refine r_box (v := vA (enc8 .u8 a2)) (enc8 .u8 a2).toArray rfl rfl hS rfl ?_
 intro b4 w5 hS
 refine r_alloc (z := vA (enc8 .u8 (fun _ => 0))) (enc8 .u8 (fun _ => 0)).toArray ze70.zero rfl hS rfl ?_
 intro b7 w8 hS
 refine r_assign (vI 0) rfl rfl (reg_nil (run_seq (run_region ?_)))
 refine r_build0 (vA (enc8 .u8 (fun _ => 0))) bz70 rfl ?_
 refine r_alloc (z := vA (enc8 .u8 (fun _ => 0))) (enc8 .u8 (fun _ => 0)).toArray ze70.zero rfl hS rfl ?_
 intro a8 s6 hS
 refine r_storeAll (v := vA (enc8 .u8 (fun _ => 0))) (vs := (enc8 .u8 (fun _ => 0)).toArray) (cs := (enc8 .u8 (fun _ => 0)).toArray) ty70 rfl rfl rfl hS rfl (enc8_one .u8 (fun _ => 0)) rfl ?_
 intro s7 hS
 refine r_assign (vI 1) rfl rfl (reg_nil (run_seq (run_seq (run_region (r_assign (vI 0) rfl rfl (reg_nil (run_block ?_)))))))
 obtain ⟨i5, a9, g6⟩ := bind_some q0
 refine loop_ind (id := 0) (fun k f w => ∃ (a3 : Int) (a5 : A8) (b9 : Int) (H1 : FH), g_spec_l01Joined_l0 K a0 a1 a2 k a3 a5 b9 = some i5 ∧ Sub H H1 ∧ St H1 w ([(a8, cA (enc8 .u8 a5) 70)] ++ ([(b7, cA (enc8 .u8 (fun _ => 0)) 70)] ++ ([(b4, cA (enc8 .u8 a2) 70)] ++ ([(b1, cA (enc8 .u8 a1) 70)] ++ L)))) ∧ 0 ≤ a3 ∧ RdSl (tyInt .i64) H1 s0 a0 ∧ ev f (.tmp 0) = s0 ∧ ev f (.tmp 4) = vP b1 ∧ ev f (.tmp 5) = vP b4 ∧ ev f (.tmp 6) = vP b7 ∧ ev f (.tmp 8) = vP a8 ∧ ev f (.tmp 9) = vI b9 ∧ ev f (.tmp 10) = vI a3) (fun f w => ∃ (c4 : Int) (a6 : A8) (H1 : FH), i5 = .go (c4, a6) ∧ Sub H H1 ∧ St H1 w ([(a8, cA (enc8 .u8 a6) 70)] ++ ([(b7, cA (enc8 .u8 (fun _ => 0)) 70)] ++ ([(b4, cA (enc8 .u8 a2) 70)] ++ ([(b1, cA (enc8 .u8 a1) 70)] ++ L)))) ∧ ev f (.tmp 6) = vP b7 ∧ ev f (.tmp 8) = vP a8 ∧ ev f (.tmp 9) = vI c4) rfl ?_ ?_ K ?_ ?_
 rintro f w ⟨a3, a5, b9, H1, a9, _⟩
 rw [g_spec_l01Joined_l0] at a9; cases a9
 rintro k p0 p1 k4 n1 ⟨a3, a5, b9, k7, a9, hsub, hS, n0, b0, f0, f1, f2, f3, d2, f4, c0⟩
 rw [g_spec_l01Joined_l0] at a9
 refine run_seq (run_seq (run_region (r_move (vI a3) (by exact c0) rfl (r_move (s0) (by exact f0) rfl ?_))))
 have p2 := b0.bound
 refine r_lenRd sl22 rfl b0 rfl ?_
 refine r_lss (k := .i64) (a := a3) (b := (a0.length : Int)) rfl rfl rfl (reg_nil ?_)
 by_cases g7 : a3 < (a0.length : Int)
 rw [if_pos g7] at a9
 refine run_cond_true (Eq.trans rfl (congrArg Value.bool (decide_eq_true g7))) (run_skip (run_seq (run_block (run_seq ?_))))
 obtain ⟨p3, a9⟩ := gd a9
 refine run_draw 9 (tabL [(19, MP.eq (vI a3)), (20, MP.eq (vI a3)), (21, MP.eq (Value.pointer (some ⟨b1, 0 + (a3).toNat * 1, none⟩))), (22, MP.eq (Value.int .u8 (idx8 a1 a3))), (23, MP.eq (vI a3)), (24, MP.eq (Value.pointer (some ⟨b4, 0 + (a3).toNat * 1, none⟩))), (25, MP.eq (Value.int .u8 (idx8 a2 a3))), (26, MP.eq (Value.int .u8 (IntKind.u8.wrap ((idx8 a1 a3) + (idx8 a2 a3))))), (27, MP.eq (Value.pointer (some ⟨a8, 0 + (a3).toNat * 1, none⟩)))]) [] mixed rfl rfl rfl hS (hop_q rfl ?_ (hop_q rfl ?_ (hop_q rfl ?_ (hop_q rfl ?_ (hop_q rfl ?_ (hop_q rfl ?_ (hop_q rfl ?_ (hop_q rfl ?_ (hop_q rfl ?_ hop_nil))))))))) ?_
 intro s8 s9 t0 t1 p4 hS k8 p5 hcq
 refine r_move (vI a3) (evT (k8 10 rfl) c0) rfl ?_
 exact qn (.refl _) rfl hS rfl
 intro t4 t5 t6 t7 p6 hS k9 p7 hcq
 refine r_move (vI a3) (evT (k9 10 rfl) c0) rfl ?_
 exact qn (.refl _) rfl hS rfl
 intro n2 t8 t9 u0 p8 hS l0 l1 hcq
 have n3 : ev n2 (.tmp 20) = vI a3 := l1 1 20 rfl rfl
 refine r_indexArP ar70 (evT (l0 4 rfl) f1) n3 (by omega) (by omega) rfl ?_
 exact qn (.refl _) rfl hS rfl
 intro n4 u1 u2 u3 p9 hS q1 l2 hcq
 have n5 : ev n4 (.tmp 21) = Value.pointer (some ⟨b1, 0 + (a3).toNat * 1, none⟩) := l2 2 21 rfl rfl
 refine r_loadOne (Value.int .u8 (idx8 a1 a3)) ty5 n5 (hS.get (o := cA (enc8 .u8 a1) 70) (mR (mR (mR (mR mL))))) (box_ix ([]) ([]) (by omega) (by omega)) rfl ?_
 exact qn (.refl _) rfl hS rfl
 intro u4 u5 u6 u7 q2 hS l3 q3 hcq
 refine r_move (vI a3) (evT (l3 10 rfl) c0) rfl ?_
 exact qn (.refl _) rfl hS rfl
 intro n6 u8 u9 v0 q4 hS l4 l5 hcq
 have n7 : ev n6 (.tmp 23) = vI a3 := l5 4 23 rfl rfl
 refine r_indexArP ar70 (evT (l4 5 rfl) f2) n7 (by omega) (by omega) rfl ?_
 exact qn (.refl _) rfl hS rfl
 intro n8 v1 v2 v3 q5 hS q6 l6 hcq
 have n9 : ev n8 (.tmp 24) = Value.pointer (some ⟨b4, 0 + (a3).toNat * 1, none⟩) := l6 5 24 rfl rfl
 refine r_loadOne (Value.int .u8 (idx8 a2 a3)) ty5 n9 (hS.get (o := cA (enc8 .u8 a2) 70) (mR (mR (mR mL)))) (box_ix ([]) ([]) (by omega) (by omega)) rfl ?_
 exact qn (.refl _) rfl hS rfl
 intro k5 v4 v5 v6 q7 hS q8 i6 hcq
 have l7 : ev k5 (.tmp 22) = Value.int .u8 (idx8 a1 a3) := i6 3 22 rfl rfl
 have l9 : ev k5 (.tmp 25) = Value.int .u8 (idx8 a2 a3) := i6 6 25 rfl rfl
 refine r_add (IntKind.u8.wrap ((idx8 a1 a3) + (idx8 a2 a3))) l7 l9 rfl rfl ?_
 exact qn (.refl _) rfl hS rfl
 intro m0 q9 r0 r1 o3 hS j6 j7 hcq
 have m1 : ev m0 (.tmp 19) = vI a3 := j7 0 19 rfl rfl
 refine r_indexArP ar70 (evT (j6 8 rfl) d2) m1 (by omega) (by omega) rfl ?_
 exact qn (.refl _) rfl hS rfl
 intro i7 m2 e3 h5 hS c2 h6 hcq
 have hS : St e3 m2 ([(a8, cA (enc8 .u8 a5) 70)] ++ ([(b7, cA (enc8 .u8 (fun _ => 0)) 70)] ++ ([(b4, cA (enc8 .u8 a2) 70)] ++ ([(b1, cA (enc8 .u8 a1) 70)] ++ L)))) := hS
 have hsub := hsub.trans h5
 have b0 := b0.mono h5
 have h2 := evT (c2 0 rfl) f0
 have i8 := evT (c2 4 rfl) f1
 have i9 := evT (c2 5 rfl) f2
 have g8 := evT (c2 6 rfl) f3
 have h3 := evT (c2 8 rfl) d2
 have j0 := evT (c2 9 rfl) f4
 have e4 := evT (c2 10 rfl) c0
 have m3 : ev i7 (.tmp 26) = Value.int .u8 (IntKind.u8.wrap ((idx8 a1 a3) + (idx8 a2 a3))) := h6 7 26 (by decide) rfl
 have m4 : ev i7 (.tmp 27) = Value.pointer (some ⟨a8, 0 + (a3).toNat * 1, none⟩) := h6 8 27 (by decide) rfl
 refine r_store (v := Value.int .u8 (IntKind.u8.wrap ((idx8 a1 a3) + (idx8 a2 a3)))) (cs := (enc8 .u8 a5).toArray) (cs' := (enc8 .u8 (upd8 a5 a3 (IntKind.u8.wrap ((idx8 a1 a3) + (idx8 a2 a3))))).toArray) ty5 (by exact m4) (by exact m3) hS rfl (oneL rfl) (by simp [enc8, encV]; omega) (enc8_set (by omega) (by omega)) ?_
 intro m5 hS
 refine reg_nil (run_seq (run_seq (run_region (r_move (s0) (by exact h2) rfl (r_move (vI a3) (by exact e4) rfl ?_)))))
 obtain ⟨r2, r3, o4, r4, _, j8, j9, rfl, k0⟩ := b0.elem (i := a3) (by omega) (by omega)
 refine r_indexAt sl22 rfl rfl j8 rfl (by omega) (by omega) rfl ?_
 refine r_loadOne (vI (rd a0 a3)) ty2 rfl (hS.froz _ _ j9) (k0 0 (show 0 < 1 by decide)) rfl ?_
 refine r_rem (((rd a0 a3)).tmod 2) rfl rfl (by decide) rfl rfl ?_
 refine r_eql (k := .i64) (a := (((rd a0 a3)).tmod 2)) (b := 0) rfl rfl rfl (reg_nil ?_)
 by_cases d9 : (((rd a0 a3)).tmod 2) = 0
 rw [if_pos d9] at a9
 refine run_cond_true (Eq.trans rfl (congrArg Value.bool (decide_eq_true d9))) ?_
 refine run_exit rfl (run_region (r_move (vI a3) (by exact e4) rfl ?_))
 refine r_add (a3 + 1) rfl rfl (IntWalk.i64_in _ (by omega)) rfl (r_assign (vI (a3 + 1)) rfl rfl (reg_nil ?_))
 exact k4 _ _ ⟨(a3 + 1), (upd8 a5 a3 (IntKind.u8.wrap ((idx8 a1 a3) + (idx8 a2 a3)))), b9, e3, a9, hsub, hS, (by omega), b0, h2, i8, i9, g8, h3, j0, rfl⟩
 rw [if_neg d9] at a9
 refine run_cond_false (Eq.trans rfl (congrArg Value.bool (decide_eq_false d9))) (run_skip (run_seq (run_seq (run_region (r_move (vI a3) (by exact e4) rfl ?_)))))
 refine r_indexArP ar70 (by exact h3) rfl (by omega) (by omega) rfl ?_
 refine r_loadOne (Value.int .u8 (idx8 (upd8 a5 a3 (IntKind.u8.wrap ((idx8 a1 a3) + (idx8 a2 a3)))) a3)) ty5 rfl (hS.get (o := cA (enc8 .u8 (upd8 a5 a3 (IntKind.u8.wrap ((idx8 a1 a3) + (idx8 a2 a3))))) 70) mL) (box_ix ([]) ([]) (by omega) (by omega)) rfl ?_
 refine r_gtr (k := .u8) (a := (idx8 (upd8 a5 a3 (IntKind.u8.wrap ((idx8 a1 a3) + (idx8 a2 a3)))) a3)) (b := 1) rfl rfl rfl (reg_nil ?_)
 by_cases e0 : 1 < (idx8 (upd8 a5 a3 (IntKind.u8.wrap ((idx8 a1 a3) + (idx8 a2 a3)))) a3)
 rw [if_pos e0] at a9
 refine run_cond_true (Eq.trans rfl (congrArg Value.bool (decide_eq_true e0))) (run_seq (run_region ?_))
 refine r_build0 (vA (enc8 .u8 (fun _ => 0))) bz70 rfl ?_
 have hS : St e3 m5 ([(b7, cA (enc8 .u8 (fun _ => 0)) 70)] ++ ([(a8, cA (enc8 .u8 (upd8 a5 a3 (IntKind.u8.wrap ((idx8 a1 a3) + (idx8 a2 a3))))) 70)] ++ ([(b4, cA (enc8 .u8 a2) 70)] ++ ([(b1, cA (enc8 .u8 a1) 70)] ++ L)))) := hS.perm (perm1 (A1 := [(a8, cA (enc8 .u8 (upd8 a5 a3 (IntKind.u8.wrap ((idx8 a1 a3) + (idx8 a2 a3))))) 70)]))
 refine r_storeAll (v := vA (enc8 .u8 (fun _ => 0))) (vs := (enc8 .u8 (fun _ => 0)).toArray) (cs := (enc8 .u8 (fun _ => 0)).toArray) ty70 (by exact g8) rfl rfl hS rfl (enc8_one .u8 (fun _ => 0)) rfl ?_
 intro m6 hS
 have hS : St e3 m6 ([(a8, cA (enc8 .u8 (upd8 a5 a3 (IntKind.u8.wrap ((idx8 a1 a3) + (idx8 a2 a3))))) 70)] ++ ([(b7, cA (enc8 .u8 (fun _ => 0)) 70)] ++ ([(b4, cA (enc8 .u8 a2) 70)] ++ ([(b1, cA (enc8 .u8 a1) 70)] ++ L)))) := hS.perm (perm1 (A1 := [(a8, cA (enc8 .u8 (upd8 a5 a3 (IntKind.u8.wrap ((idx8 a1 a3) + (idx8 a2 a3))))) 70)])).symm
 refine r_assign (vI 0) rfl rfl (reg_nil ?_)
 refine run_ret (vs := [vA (enc8 .u8 (fun _ => 0)), vI 0]) Tryz.func282 ⟨⟨_, (by exact g8), run_loadAll ty70 (hS.get (mR mL)) rfl⟩, rfl, trivial⟩ ?_
 have hz := Option.some.inj a9
 subst hz
 dsimp only [Ex.elim] at g6
 have hz := Option.some.inj g6
 subst hz
 exact ⟨_, _, rfl, hsub, (St.dropA (A := [(b1, cA (enc8 .u8 a1) 70)]) (St.dropA (A := [(b4, cA (enc8 .u8 a2) 70)]) (St.dropA (A := [(b7, cA (enc8 .u8 (fun _ => 0)) 70)]) (St.dropA (A := [(a8, cA (enc8 .u8 (upd8 a5 a3 (IntKind.u8.wrap ((idx8 a1 a3) + (idx8 a2 a3))))) 70)]) hS)))), ⟨_, _, rfl, ⟨_, rfl, rfl⟩, rfl⟩⟩
 rw [if_neg e0] at a9
 refine run_cond_false (Eq.trans rfl (congrArg Value.bool (decide_eq_false e0))) (run_skip (run_seq (run_region (r_move (vI a3) (by exact e4) rfl ?_))))
 refine r_add (a3 + 1) rfl rfl (IntWalk.i64_in _ (by omega)) rfl (r_assign (vI (a3 + 1)) rfl rfl (reg_nil (run_block ?_)))
 obtain ⟨g9, c1, j1⟩ := bind_some a9
 refine loop_ind (id := 2) (fun k f w => ∃ (a7 : Int) (a4 : Int) (H1 : FH), g_spec_l01Joined_l1 K a0 a1 a2 a3 k a7 a4 = some g9 ∧ Sub H H1 ∧ St H1 w ([(a8, cA (enc8 .u8 (upd8 a5 a3 (IntKind.u8.wrap ((idx8 a1 a3) + (idx8 a2 a3))))) 70)] ++ ([(b7, cA (enc8 .u8 (fun _ => 0)) 70)] ++ ([(b4, cA (enc8 .u8 a2) 70)] ++ ([(b1, cA (enc8 .u8 a1) 70)] ++ L)))) ∧ RdSl (tyInt .i64) H1 s0 a0 ∧ ev f (.tmp 0) = s0 ∧ ev f (.tmp 4) = vP b1 ∧ ev f (.tmp 5) = vP b4 ∧ ev f (.tmp 6) = vP b7 ∧ ev f (.tmp 8) = vP a8 ∧ ev f (.tmp 9) = vI a7 ∧ ev f (.tmp 10) = vI a3 ∧ ev f (.tmp 11) = vI a4) (fun f w => ∃ (d1 : Int) (H1 : FH), g9 = .go d1 ∧ Sub H H1 ∧ St H1 w ([(a8, cA (enc8 .u8 (upd8 a5 a3 (IntKind.u8.wrap ((idx8 a1 a3) + (idx8 a2 a3))))) 70)] ++ ([(b7, cA (enc8 .u8 (fun _ => 0)) 70)] ++ ([(b4, cA (enc8 .u8 a2) 70)] ++ ([(b1, cA (enc8 .u8 a1) 70)] ++ L)))) ∧ RdSl (tyInt .i64) H1 s0 a0 ∧ ev f (.tmp 0) = s0 ∧ ev f (.tmp 4) = vP b1 ∧ ev f (.tmp 5) = vP b4 ∧ ev f (.tmp 6) = vP b7 ∧ ev f (.tmp 8) = vP a8 ∧ ev f (.tmp 9) = vI d1 ∧ ev f (.tmp 10) = vI a3) rfl ?_ ?_ K ?_ ?_
 rintro f w ⟨a7, a4, H1, c1, _⟩
 rw [g_spec_l01Joined_l1] at c1; cases c1
 rintro k r5 r6 k6 o0 ⟨a7, a4, j2, c1, hsub, hS, b0, d3, f5, d4, f6, f7, f8, c8, c9⟩
 rw [g_spec_l01Joined_l1] at c1
 refine run_seq (run_seq ?_)
 refine run_cut (fun f w => ∃ (b8 : Bool) (H1 : FH), g_spec_l01Joined_j49 K (g_spec_l01Joined_l1 K a0 a1 a2 a3 k) a0 a1 a4 a7 b8 = some g9 ∧ Sub H H1 ∧ St H1 w ([(a8, cA (enc8 .u8 (upd8 a5 a3 (IntKind.u8.wrap ((idx8 a1 a3) + (idx8 a2 a3))))) 70)] ++ ([(b7, cA (enc8 .u8 (fun _ => 0)) 70)] ++ ([(b4, cA (enc8 .u8 a2) 70)] ++ ([(b1, cA (enc8 .u8 a1) 70)] ++ L)))) ∧ RdSl (tyInt .i64) H1 s0 a0 ∧ ev f (.tmp 0) = s0 ∧ ev f (.tmp 4) = vP b1 ∧ ev f (.tmp 5) = vP b4 ∧ ev f (.tmp 6) = vP b7 ∧ ev f (.tmp 8) = vP a8 ∧ ev f (.tmp 9) = vI a7 ∧ ev f (.tmp 10) = vI a3 ∧ ev f (.tmp 11) = vI a4 ∧ ev f (.tmp 50) = Value.bool b8) ?_ ?_
 rintro r7 o1 ⟨b8, e5, b2, hsub, hS, b0, c6, c7, d5, d6, d7, d8, d0, c3, e6⟩
 unfold g_spec_l01Joined_j49 at b2
 by_cases e1 : b8 = true
 rw [if_pos e1] at b2
 refine run_cond_true (Eq.trans (by exact e6) (congrArg Value.bool e1)) (run_skip (run_seq (run_block (run_seq ?_))))
 refine run_cut (fun f w => ∃ (b6 : Bool) (H1 : FH), g_spec_l01Joined_j50 K (g_spec_l01Joined_l1 K a0 a1 a2 a3 k) a4 a7 b6 = some g9 ∧ Sub H H1 ∧ St H1 w ([(a8, cA (enc8 .u8 (upd8 a5 a3 (IntKind.u8.wrap ((idx8 a1 a3) + (idx8 a2 a3))))) 70)] ++ ([(b7, cA (enc8 .u8 (fun _ => 0)) 70)] ++ ([(b4, cA (enc8 .u8 a2) 70)] ++ ([(b1, cA (enc8 .u8 a1) 70)] ++ L)))) ∧ RdSl (tyInt .i64) H1 s0 a0 ∧ ev f (.tmp 0) = s0 ∧ ev f (.tmp 4) = vP b1 ∧ ev f (.tmp 5) = vP b4 ∧ ev f (.tmp 6) = vP b7 ∧ ev f (.tmp 8) = vP a8 ∧ ev f (.tmp 9) = vI a7 ∧ ev f (.tmp 10) = vI a3 ∧ ev f (.tmp 11) = vI a4 ∧ ev f (.tmp 64) = Value.bool b6) ?_ ?_
 rintro r8 o2 ⟨b6, h1, c5, hsub, hS, b0, f9, g0, g1, g2, g3, g4, e7, e8, e9⟩
 unfold g_spec_l01Joined_j50 at c5
 by_cases e2 : b6 = true
 rw [if_pos e2] at c5
 refine run_cond_true (Eq.trans (by exact e9) (congrArg Value.bool e2)) (run_region (r_move (vI a7) (by exact g4) rfl ?_))
 refine r_neg (IntKind.i64.wrap (0 - a7)) rfl rfl rfl (r_assign (vI (IntKind.i64.wrap (0 - a7))) rfl rfl (reg_nil (run_inBlock (run_region (r_move (vI a4) (by exact e8) rfl ?_)))))
 refine r_add (IntKind.i64.wrap (a4 + 1)) rfl rfl rfl rfl (r_assign (vI (IntKind.i64.wrap (a4 + 1))) rfl rfl (reg_nil ?_))
 exact k6 _ _ ⟨(IntKind.i64.wrap (0 - a7)), (IntKind.i64.wrap (a4 + 1)), h1, c5, hsub, hS, b0, f9, g0, g1, g2, g3, rfl, e7, rfl⟩
 rw [if_neg e2] at c5
 refine run_cond_false (Eq.trans (by exact e9) (congrArg Value.bool (bfalse e2))) (run_skip (run_inBlock (run_region (r_move (vI a4) (by exact e8) rfl ?_))))
 refine r_add (IntKind.i64.wrap (a4 + 1)) rfl rfl rfl rfl (r_assign (vI (IntKind.i64.wrap (a4 + 1))) rfl rfl (reg_nil ?_))
 exact k6 _ _ ⟨a7, (IntKind.i64.wrap (a4 + 1)), h1, c5, hsub, hS, b0, f9, g0, g1, g2, g3, g4, e7, rfl⟩
 intro j3
 refine run_region (r_move (s0) (by exact c6) rfl (r_move (vI a4) (by exact c3) rfl ?_))
 obtain ⟨o5, b2⟩ := gd b2
 obtain ⟨o6, b2⟩ := gd b2
 obtain ⟨r9, s1, o7, s2, _, k1, k2, rfl, k3⟩ := b0.elem (i := a4) (by omega) (by omega)
 refine r_indexAt sl22 rfl rfl k1 rfl (by omega) (by omega) rfl ?_
 refine r_loadOne (vI (rd a0 a4)) ty2 rfl (hS.froz _ _ k2) (k3 0 (show 0 < 1 by decide)) rfl ?_
 refine r_rem (((rd a0 a4)).tmod 2) rfl rfl (by decide) rfl rfl ?_
 refine r_neq (k := .i64) (a := (((rd a0 a4)).tmod 2)) (b := 0) rfl rfl rfl (r_move (Value.bool (!decide ((((rd a0 a4)).tmod 2) = 0))) rfl rfl ?_)
 by_cases b3 : (((rd a0 a4)).tmod 2) = 0
 rw [if_pos b3] at b2
 refine reg_unguard rfl rfl (Eq.trans rfl (congrArg (fun b => Value.bool (!b)) (decide_eq_true b3))) rfl rfl rfl (reg_unguard rfl rfl (Eq.trans rfl (congrArg (fun b => Value.bool (!b)) (decide_eq_true b3))) rfl rfl rfl (reg_unguard rfl rfl (Eq.trans rfl (congrArg (fun b => Value.bool (!b)) (decide_eq_true b3))) rfl rfl rfl (reg_unguard rfl rfl (Eq.trans rfl (congrArg (fun b => Value.bool (!b)) (decide_eq_true b3))) rfl rfl rfl ?_)))
 refine r_pick (t := false) (Value.bool false) (Eq.trans rfl (congrArg (fun b => Value.bool (!b)) (decide_eq_true b3))) ((if_neg Bool.false_ne_true).trans rfl) rfl (reg_nil ?_)
 exact j3 _ _ ⟨false, e5, b2, hsub, hS, b0, c6, c7, d5, d6, d7, d8, d0, c3, rfl⟩
 rw [if_neg b3] at b2
 refine reg_guard rfl rfl (Eq.trans rfl (congrArg (fun b => Value.bool (!b)) (decide_eq_false b3))) (r_move (vI a4) (by exact c3) rfl ?_)
 refine reg_guard rfl rfl (Eq.trans rfl (congrArg (fun b => Value.bool (!b)) (decide_eq_false b3))) ?_
 obtain ⟨o8, b2⟩ := gd b2
 refine r_indexArP ar70 (by exact c7) rfl (by omega) (by omega) rfl ?_
 refine reg_guard rfl rfl (Eq.trans rfl (congrArg (fun b => Value.bool (!b)) (decide_eq_false b3))) ?_
 refine r_loadOne (Value.int .u8 (idx8 a1 a4)) ty5 rfl (hS.get (o := cA (enc8 .u8 a1) 70) (mR (mR (mR mL)))) (box_ix ([]) ([]) (by omega) (by omega)) rfl ?_
 refine reg_guard rfl rfl (Eq.trans rfl (congrArg (fun b => Value.bool (!b)) (decide_eq_false b3))) ?_
 refine r_eql (k := .u8) (a := (idx8 a1 a4)) (b := 1) rfl rfl rfl ?_
 refine r_pick (t := true) (Value.bool (decide ((idx8 a1 a4) = 1))) (Eq.trans rfl (congrArg (fun b => Value.bool (!b)) (decide_eq_false b3))) ((if_pos rfl).trans rfl) rfl (reg_nil ?_)
 exact j3 _ _ ⟨(decide ((idx8 a1 a4) = 1)), e5, b2, hsub, hS, b0, c6, c7, d5, d6, d7, d8, d0, c3, rfl⟩
 rw [if_neg e1] at b2
 refine run_cond_false (Eq.trans (by exact e6) (congrArg Value.bool (bfalse e1))) ?_
 refine run_exit rfl ?_
 have hz := Option.some.inj b2
 subst hz
 exact o0 _ _ ⟨a7, e5, rfl, hsub, hS, b0, c6, c7, d5, d6, d7, d8, d0⟩
 intro j4
 refine run_region (r_move (vI a4) (by exact c9) rfl (r_move (s0) (by exact d3) rfl ?_))
 have o9 := b0.bound
 refine r_lenRd sl22 rfl b0 rfl ?_
 refine r_lss (k := .i64) (a := a4) (b := (a0.length : Int)) rfl rfl rfl (r_move (Value.bool (decide (a4 < (a0.length : Int)))) rfl rfl ?_)
 by_cases b5 : a4 < (a0.length : Int)
 rw [if_pos b5] at c1
 refine reg_guard rfl rfl (Eq.trans rfl (congrArg Value.bool (decide_eq_true b5))) (r_move (vI a3) (by exact c8) rfl ?_)
 refine reg_guard rfl rfl (Eq.trans rfl (congrArg Value.bool (decide_eq_true b5))) ?_
 refine r_indexArP ar70 (by exact d4) rfl (by omega) (by omega) rfl ?_
 refine reg_guard rfl rfl (Eq.trans rfl (congrArg Value.bool (decide_eq_true b5))) ?_
 refine r_loadOne (Value.int .u8 (idx8 a2 a3)) ty5 rfl (hS.get (o := cA (enc8 .u8 a2) 70) (mR (mR mL))) (box_ix ([]) ([]) (by omega) (by omega)) rfl ?_
 refine reg_guard rfl rfl (Eq.trans rfl (congrArg Value.bool (decide_eq_true b5))) ?_
 refine r_eql (k := .u8) (a := (idx8 a2 a3)) (b := 1) rfl rfl rfl ?_
 refine r_pick (t := true) (Value.bool (decide ((idx8 a2 a3) = 1))) (Eq.trans rfl (congrArg Value.bool (decide_eq_true b5))) ((if_pos rfl).trans rfl) rfl (reg_nil ?_)
 exact j4 _ _ ⟨(decide ((idx8 a2 a3) = 1)), j2, c1, hsub, hS, b0, d3, f5, d4, f6, f7, f8, c8, c9, rfl⟩
 rw [if_neg b5] at c1
 refine reg_unguard rfl rfl (Eq.trans rfl (congrArg Value.bool (decide_eq_false b5))) rfl rfl rfl (reg_unguard rfl rfl (Eq.trans rfl (congrArg Value.bool (decide_eq_false b5))) rfl rfl rfl (reg_unguard rfl rfl (Eq.trans rfl (congrArg Value.bool (decide_eq_false b5))) rfl rfl rfl (reg_unguard rfl rfl (Eq.trans rfl (congrArg Value.bool (decide_eq_false b5))) rfl rfl rfl ?_)))
 refine r_pick (t := false) (Value.bool false) (Eq.trans rfl (congrArg Value.bool (decide_eq_false b5))) ((if_neg Bool.false_ne_true).trans rfl) rfl (reg_nil ?_)
 exact j4 _ _ ⟨false, j2, c1, hsub, hS, b0, d3, f5, d4, f6, f7, f8, c8, c9, rfl⟩
 exact ⟨b9, (a3 + 1), e3, c1, hsub, hS, b0, h2, i8, i9, g8, h3, j0, e4, rfl⟩
 rintro s3 s4 ⟨d1, m7, rfl, hsub, hS, b0, h7, h8, h9, i0, i1, i2, h4⟩
 dsimp only [Ex.elim] at j1
 refine run_inBlock (run_region (r_move (vI a3) (by exact h4) rfl ?_))
 refine r_add (a3 + 1) rfl rfl (IntWalk.i64_in _ (by omega)) rfl (r_assign (vI (a3 + 1)) rfl rfl (reg_nil ?_))
 exact k4 _ _ ⟨(a3 + 1), (upd8 a5 a3 (IntKind.u8.wrap ((idx8 a1 a3) + (idx8 a2 a3)))), d1, m7, j1, hsub, hS, (by omega), b0, h7, h8, h9, i0, i1, i2, rfl⟩
 rw [if_neg g7] at a9
 refine run_cond_false (Eq.trans rfl (congrArg Value.bool (decide_eq_false g7))) ?_
 refine run_exit rfl ?_
 have hz := Option.some.inj a9
 subst hz
 exact n1 _ _ ⟨b9, a5, k7, rfl, hsub, hS, f3, d2, f4⟩
 exact ⟨0, (fun _ => 0), 1, H, a9, hsub, hS, (by omega), b0, rfl, rfl, rfl, rfl, rfl, rfl, rfl⟩
 rintro s5 m8 ⟨c4, a6, j5, rfl, hsub, hS, g5, i3, i4⟩
 dsimp only [Ex.elim] at g6
 refine run_seq (run_region ?_)
 refine r_loadAll ty70 (by exact i3) (hS.get mL) rfl rfl (r_move (vI c4) (by exact i4) rfl ?_)
 have hS : St j5 m8 ([(b7, cA (enc8 .u8 (fun _ => 0)) 70)] ++ ([(a8, cA (enc8 .u8 a6) 70)] ++ ([(b4, cA (enc8 .u8 a2) 70)] ++ ([(b1, cA (enc8 .u8 a1) 70)] ++ L)))) := hS.perm (perm1 (A1 := [(a8, cA (enc8 .u8 a6) 70)]))
 refine r_storeAll (v := vA (enc8 .u8 a6)) (vs := (enc8 .u8 a6).toArray) (cs := (enc8 .u8 (fun _ => 0)).toArray) ty70 (by exact g5) rfl rfl hS rfl (enc8_one .u8 a6) rfl ?_
 intro m9 hS
 have hS : St j5 m9 ([(a8, cA (enc8 .u8 a6) 70)] ++ ([(b7, cA (enc8 .u8 a6) 70)] ++ ([(b4, cA (enc8 .u8 a2) 70)] ++ ([(b1, cA (enc8 .u8 a1) 70)] ++ L)))) := hS.perm (perm1 (A1 := [(a8, cA (enc8 .u8 a6) 70)])).symm
 refine r_assign (vI c4) rfl rfl (reg_nil ?_)
 refine run_ret (vs := [vA (enc8 .u8 a6), vI c4]) Tryz.func282 ⟨⟨_, (by exact g5), run_loadAll ty70 (hS.get (mR mL)) rfl⟩, rfl, trivial⟩ ?_
 have hz := Option.some.inj g6
 subst hz
 exact ⟨_, _, rfl, hsub, (St.dropA (A := [(b1, cA (enc8 .u8 a1) 70)]) (St.dropA (A := [(b4, cA (enc8 .u8 a2) 70)]) (St.dropA (A := [(b7, cA (enc8 .u8 a6) 70)]) (St.dropA (A := [(a8, cA (enc8 .u8 a6) 70)]) hS)))), ⟨_, _, rfl, ⟨_, rfl, rfl⟩, rfl⟩⟩
def g_spec_l01Weight_l0 (K : Nat) (a0 : (List Int)) (a1 : A8) : Nat → Int → Int → Option (Ex Int (Int))
 | 0, _, _ => none
 | k + 1, a4, a3 => (if a3 < (a0.length : Int) then (if a3 < 8 then g_spec_l01Weight_l0 K a0 a1 k (IntKind.i64.wrap (a4 + (IntKind.i64.wrap ((rd a0 a3) * (IntKind.i64.wrap (idx8 a1 a3)))))) (a3 + 1) else none) else some (.go a4))
def g_spec_l01Weight (K : Nat) (a0 : (List Int)) (a1 : A8) : Option Int := ((g_spec_l01Weight_l0 K a0 a1 K 0 0).bind (Ex.elim (fun r => some r) (fun s => (fun (a6 : Int) => some a6) s)))
theorem g_spec_l01Weight_ok {K : Nat} {a0 : (List Int)} {a1 : A8} {r : Int} (q0 : g_spec_l01Weight K a0 a1 = some r) {H : FH} {w : World} {L : OL} {s0 : Value} (a9 : RdSl (tyInt .i64) H s0 a0) (hS : St H w L) :
 Calls Tryz.prog 216 #[s0, vA (enc8 .u8 a1)] w (Done (fun v G => (R.int .i64).p G v r) H L) := by
 have hsub := Sub.refl H
 refine calls_of_run Tryz.func216 rfl Tryz.ntmps216 rfl ?_
 unfold g_spec_l01Weight at q0
 refine run_seq (run_region ?_)
 refine r_box (v := vA (enc8 .u8 a1)) (enc8 .u8 a1).toArray rfl rfl hS rfl ?_
 intro b1 w2 hS
 refine r_assign (vI 0) rfl rfl (reg_nil (run_seq (run_region (r_assign (vI 0) rfl rfl (reg_nil (run_seq (run_seq (run_region (r_assign (vI 0) rfl rfl (reg_nil (run_block ?_)))))))))))
 obtain ⟨c0, a5, c1⟩ := bind_some q0
 refine loop_ind (id := 0) (fun k f w => ∃ (a4 : Int) (a3 : Int) (H1 : FH), g_spec_l01Weight_l0 K a0 a1 k a4 a3 = some c0 ∧ Sub H H1 ∧ St H1 w ([(b1, cA (enc8 .u8 a1) 70)] ++ L) ∧ 0 ≤ a3 ∧ RdSl (tyInt .i64) H1 s0 a0 ∧ ev f (.tmp 0) = s0 ∧ ev f (.tmp 3) = vP b1 ∧ ev f (.tmp 5) = vI a4 ∧ ev f (.tmp 6) = vI a3) (fun f w => ∃ (a6 : Int) (H1 : FH), c0 = .go a6 ∧ Sub H H1 ∧ St H1 w ([(b1, cA (enc8 .u8 a1) 70)] ++ L) ∧ ev f (.tmp 5) = vI a6) rfl ?_ ?_ K ?_ ?_
 rintro f w ⟨a4, a3, H1, a5, _⟩
 rw [g_spec_l01Weight_l0] at a5; cases a5
 rintro k g8 g9 f1 f2 ⟨a4, a3, d0, a5, hsub, hS, f3, a9, a8, b0, b2, a7⟩
 rw [g_spec_l01Weight_l0] at a5
 refine run_seq (run_seq (run_region (r_move (vI a3) (by exact a7) rfl (r_move (s0) (by exact a8) rfl ?_))))
 have j7 := a9.bound
 refine r_lenRd sl22 rfl a9 rfl ?_
 refine r_lss (k := .i64) (a := a3) (b := (a0.length : Int)) rfl rfl rfl (reg_nil ?_)
 by_cases b5 : a3 < (a0.length : Int)
 rw [if_pos b5] at a5
 refine run_cond_true (Eq.trans rfl (congrArg Value.bool (decide_eq_true b5))) (run_skip (run_seq (run_block ?_)))
 obtain ⟨c7, c8, h0, j8, _, d1, b4, rfl, d2⟩ := a9.elem (i := a3) (by omega) (by omega)
 obtain ⟨h1, a5⟩ := gd a5
 refine run_draw 11 (tabL [(13, MP.eq (vI a4)), (14, MP.eq (s0)), (15, MP.eq (vI a3)), (16, MP.eq (Value.pointer (some ⟨c7, c8, none⟩))), (17, MP.eq (vI (rd a0 a3))), (18, MP.eq (vI a3)), (19, MP.eq (Value.pointer (some ⟨b1, 0 + (a3).toNat * 1, none⟩))), (20, MP.eq (Value.int .u8 (idx8 a1 a3))), (21, MP.eq (vI (IntKind.i64.wrap (idx8 a1 a3)))), (22, MP.eq (vI (IntKind.i64.wrap ((rd a0 a3) * (IntKind.i64.wrap (idx8 a1 a3)))))), (23, MP.eq (vI (IntKind.i64.wrap (a4 + (IntKind.i64.wrap ((rd a0 a3) * (IntKind.i64.wrap (idx8 a1 a3))))))))]) [] mixed rfl rfl rfl hS (hop_q rfl ?_ (hop_q rfl ?_ (hop_q rfl ?_ (hop_q rfl ?_ (hop_q rfl ?_ (hop_q rfl ?_ (hop_q rfl ?_ (hop_q rfl ?_ (hop_q rfl ?_ (hop_q rfl ?_ (hop_q rfl ?_ hop_nil))))))))))) ?_
 intro f6 w7 H8 X9 h2 hS d3 h3 hcq
 refine r_move (vI a4) (evT (d3 5 rfl) b2) rfl ?_
 exact qn (.refl _) rfl hS rfl
 intro j9 k0 k1 k2 h4 hS d4 h5 hcq
 refine r_move (s0) (evT (d4 0 rfl) a8) rfl ?_
 exact qn (.refl _) rfl hS rfl
 intro k3 k4 k5 k6 h6 hS d5 h7 hcq
 refine r_move (vI a3) (evT (d5 6 rfl) a7) rfl ?_
 exact qn (.refl _) rfl hS rfl
 intro c9 k7 k8 k9 h8 hS h9 c2 hcq
 have f4 : ev c9 (.tmp 14) = s0 := c2 1 14 rfl rfl
 have f5 : ev c9 (.tmp 15) = vI a3 := c2 2 15 rfl rfl
 refine r_indexAt sl22 rfl f4 d1 f5 (by omega) (by omega) rfl ?_
 exact qn (.refl _) rfl hS rfl
 intro f7 l0 l1 l2 d6 hS i0 d7 hcq
 have b4 := d6.1 _ _ b4
 have f8 : ev f7 (.tmp 16) = Value.pointer (some ⟨c7, c8, none⟩) := d7 3 16 rfl rfl
 refine r_loadOne (vI (rd a0 a3)) ty2 f8 (hS.froz _ _ b4) (d2 0 (show 0 < 1 by decide)) rfl ?_
 exact qn (.refl _) rfl hS rfl
 intro l3 l4 l5 l6 i1 hS d8 i2 hcq
 refine r_move (vI a3) (evT (d8 6 rfl) a7) rfl ?_
 exact qn (.refl _) rfl hS rfl
 intro f9 l7 l9 m0 i3 hS d9 e0 hcq
 have g0 : ev f9 (.tmp 18) = vI a3 := e0 5 18 rfl rfl
 refine r_indexArP ar70 (evT (d9 3 rfl) b0) g0 (by omega) (by omega) rfl ?_
 exact qn (.refl _) rfl hS rfl
 intro g1 m1 m2 m3 i4 hS i5 e1 hcq
 have g2 : ev g1 (.tmp 19) = Value.pointer (some ⟨b1, 0 + (a3).toNat * 1, none⟩) := e1 6 19 rfl rfl
 refine r_loadOne (Value.int .u8 (idx8 a1 a3)) ty5 g2 (hS.get (o := cA (enc8 .u8 a1) 70) (mR mL)) (box_ix ([]) ([]) (by omega) (by omega)) rfl ?_
 exact qn (.refl _) rfl hS rfl
 intro g3 m4 m5 m6 i6 hS i7 e2 hcq
 have e3 : ev g3 (.tmp 20) = Value.int .u8 (idx8 a1 a3) := e2 7 20 rfl rfl
 refine r_conv (s := .u8) ((IntKind.i64.wrap (idx8 a1 a3))) co5_2 e3 rfl rfl ?_
 exact qn (.refl _) rfl hS rfl
 intro c3 i8 i9 j0 g4 hS g5 b6 hcq
 have e4 : ev c3 (.tmp 17) = vI (rd a0 a3) := b6 4 17 rfl rfl
 have e5 : ev c3 (.tmp 21) = vI (IntKind.i64.wrap (idx8 a1 a3)) := b6 8 21 rfl rfl
 refine r_mul (IntKind.i64.wrap ((rd a0 a3) * (IntKind.i64.wrap (idx8 a1 a3)))) e4 e5 rfl rfl ?_
 exact qn (.refl _) rfl hS rfl
 intro c4 j1 j2 j3 g6 hS g7 b7 hcq
 have e6 : ev c4 (.tmp 13) = vI a4 := b7 0 13 rfl rfl
 have e7 : ev c4 (.tmp 22) = vI (IntKind.i64.wrap ((rd a0 a3) * (IntKind.i64.wrap (idx8 a1 a3)))) := b7 9 22 rfl rfl
 refine r_add (IntKind.i64.wrap (a4 + (IntKind.i64.wrap ((rd a0 a3) * (IntKind.i64.wrap (idx8 a1 a3)))))) e6 e7 rfl rfl ?_
 exact qn (.refl _) rfl hS rfl
 intro e8 e9 c5 b8 hS b3 c6 hcq
 have hS : St c5 e9 ([(b1, cA (enc8 .u8 a1) 70)] ++ L) := hS
 have hsub := hsub.trans b8
 have a9 := a9.mono b8
 have f0 : ev e8 (.tmp 23) = vI (IntKind.i64.wrap (a4 + (IntKind.i64.wrap ((rd a0 a3) * (IntKind.i64.wrap (idx8 a1 a3)))))) := c6 10 23 (by decide) rfl
 refine r_assign (vI (IntKind.i64.wrap (a4 + (IntKind.i64.wrap ((rd a0 a3) * (IntKind.i64.wrap (idx8 a1 a3))))))) (by exact f0) rfl (reg_nil (run_inBlock (run_region (r_move (vI a3) (by exact (evT (b3 6 rfl) a7)) rfl ?_))))
 refine r_add (a3 + 1) rfl rfl (IntWalk.i64_in _ (by omega)) rfl (r_assign (vI (a3 + 1)) rfl rfl (reg_nil ?_))
 exact f1 _ _ ⟨(IntKind.i64.wrap (a4 + (IntKind.i64.wrap ((rd a0 a3) * (IntKind.i64.wrap (idx8 a1 a3)))))), (a3 + 1), c5, a5, hsub, hS, (by omega), a9, (evT (b3 0 rfl) a8), (evT (b3 3 rfl) b0), rfl, rfl⟩
 rw [if_neg b5] at a5
 refine run_cond_false (Eq.trans rfl (congrArg Value.bool (decide_eq_false b5))) ?_
 refine run_exit rfl ?_
 have hz := Option.some.inj a5
 subst hz
 exact f2 _ _ ⟨a4, d0, rfl, hsub, hS, b2⟩
 exact ⟨0, 0, H, a5, hsub, hS, (by omega), a9, rfl, rfl, rfl, rfl⟩
 rintro j4 j5 ⟨a6, j6, rfl, hsub, hS, b9⟩
 dsimp only [Ex.elim] at c1
 refine run_seq (run_region (r_move (vI a6) (by exact b9) rfl (r_assign (vI a6) rfl rfl (reg_nil ?_))))
 refine run_ret (vs := [vI a6]) Tryz.func216 ⟨rfl, trivial⟩ ?_
 have hz := Option.some.inj c1
 subst hz
 exact ⟨_, _, rfl, hsub, (St.dropA (A := [(b1, cA (enc8 .u8 a1) 70)]) hS), rfl⟩
def g_impl_powerOf_l0 (K : Nat) (a0 : A8) : Nat → Int → A8 → Option (Ex A8 (A8))
 | 0, _, _ => none
 | k + 1, a3, a4 => (if a3 < 8 then g_impl_powerOf_l0 K a0 k (a3 + 1) (upd8 a4 a3 (IntKind.i64.wrap (idx8 a0 a3))) else some (.go a4))
def g_impl_powerOf (K : Nat) (a0 : A8) : Option A8 := ((g_impl_powerOf_l0 K a0 K 0 (fun _ => 0)).bind (Ex.elim (fun r => some r) (fun s => (fun (a1 : A8) => some a1) s)))
theorem g_impl_powerOf_ok {K : Nat} {a0 : A8} {r : A8} (q0 : g_impl_powerOf K a0 = some r) {H : FH} {w : World} {L : OL} (hS : St H w L) :
 Calls Tryz.prog 176 #[vA (enc8 .u8 a0)] w (Done (fun v G => (R.agg (tyA8 .i64)).p G v r) H L) := by
 have hsub := Sub.refl H
 refine calls_of_run Tryz.func176 rfl Tryz.ntmps176 rfl ?_
 unfold g_impl_powerOf at q0
 refine run_seq (run_region ?_)
 refine r_box (v := vA (enc8 .u8 a0)) (enc8 .u8 a0).toArray rfl rfl hS rfl ?_
 intro b1 w2 hS
 refine r_alloc (z := vA (enc8 .i64 (fun _ => 0))) (enc8 .i64 (fun _ => 0)).toArray ze188.zero rfl hS rfl ?_
 intro b4 w5 hS
 refine reg_nil (run_seq (run_region ?_))
 refine r_build0 (vA (enc8 .i64 (fun _ => 0))) bz188 rfl ?_
 refine r_alloc (z := vA (enc8 .i64 (fun _ => 0))) (enc8 .i64 (fun _ => 0)).toArray ze188.zero rfl hS rfl ?_
 intro b7 w8 hS
 refine r_storeAll (v := vA (enc8 .i64 (fun _ => 0))) (vs := (enc8 .i64 (fun _ => 0)).toArray) (cs := (enc8 .i64 (fun _ => 0)).toArray) ty188 rfl rfl rfl hS rfl (enc8_one .i64 (fun _ => 0)) rfl ?_
 intro c8 hS
 refine reg_nil (run_seq (run_seq (run_region ?_)))
 refine r_loadAll ty70 rfl (hS.get (mR (mR mL))) rfl rfl (r_move (vI 0) rfl rfl (reg_nil (run_block ?_)))
 obtain ⟨b5, a5, b6⟩ := bind_some q0
 refine loop_ind (id := 0) (fun k f w => ∃ (a3 : Int) (a4 : A8) (H1 : FH), g_impl_powerOf_l0 K a0 k a3 a4 = some b5 ∧ Sub H H1 ∧ St H1 w ([(b7, cA (enc8 .i64 a4) 188)] ++ ([(b4, cA (enc8 .i64 (fun _ => 0)) 188)] ++ ([(b1, cA (enc8 .u8 a0) 70)] ++ L))) ∧ 0 ≤ a3 ∧ ev f (.tmp 2) = vP b4 ∧ ev f (.tmp 3) = vP b7 ∧ ev f (.tmp 7) = vA (enc8 .u8 a0) ∧ ev f (.tmp 8) = vI a3) (fun f w => ∃ (a1 : A8) (H1 : FH), b5 = .go a1 ∧ Sub H H1 ∧ St H1 w ([(b7, cA (enc8 .i64 a1) 188)] ++ ([(b4, cA (enc8 .i64 (fun _ => 0)) 188)] ++ ([(b1, cA (enc8 .u8 a0) 70)] ++ L))) ∧ ev f (.tmp 2) = vP b4 ∧ ev f (.tmp 3) = vP b7) rfl ?_ ?_ K ?_ ?_
 rintro f w ⟨a3, a4, H1, a5, _⟩
 rw [g_impl_powerOf_l0] at a5; cases a5
 rintro k c5 c6 c1 c2 ⟨a3, a4, b8, a5, hsub, hS, c3, a8, a7, a9, a6⟩
 rw [g_impl_powerOf_l0] at a5
 refine run_seq (run_region ?_)
 refine r_lss (k := .i64) (a := a3) (b := 8) (by exact a6) rfl rfl (reg_nil (run_seq ?_))
 by_cases b2 : a3 < 8
 rw [if_pos b2] at a5
 refine run_cond_true (Eq.trans rfl (congrArg Value.bool (decide_eq_true b2))) (run_skip (run_seq (run_block (run_seq (run_region (r_move (vI a3) (by exact a6) rfl ?_))))))
 refine r_indexAr (Value.int .u8 (idx8 a0 a3)) ar70 (by exact a9) (by exact a6) (by omega) (by omega) (enc8_get (by omega) (by omega)) rfl (r_assign (vI a3) rfl rfl (r_assign (Value.int .u8 (idx8 a0 a3)) rfl rfl (reg_nil (run_region (r_move (vI a3) rfl rfl (r_move (Value.int .u8 (idx8 a0 a3)) rfl rfl ?_))))))
 refine r_conv (s := .u8) ((IntKind.i64.wrap (idx8 a0 a3))) co5_3 rfl rfl rfl ?_
 refine r_indexArP ar188 (by exact a7) rfl (by omega) (by omega) rfl ?_
 refine r_store (v := vI (IntKind.i64.wrap (idx8 a0 a3))) (cs := (enc8 .i64 a4).toArray) (cs' := (enc8 .i64 (upd8 a4 a3 (IntKind.i64.wrap (idx8 a0 a3)))).toArray) ty3 rfl rfl hS rfl (oneL rfl) (by simp [enc8, encV]; omega) (enc8_set (by omega) (by omega)) ?_
 intro c9 hS
 refine reg_nil (run_inBlock (run_region ?_))
 refine r_add (a3 + 1) (by exact a6) rfl (IntWalk.i64_in _ (by omega)) rfl (r_move (vI (a3 + 1)) rfl rfl (reg_nil ?_))
 exact c1 _ _ ⟨(a3 + 1), (upd8 a4 a3 (IntKind.i64.wrap (idx8 a0 a3))), b8, a5, hsub, hS, (by omega), a8, a7, a9, rfl⟩
 rw [if_neg b2] at a5
 refine run_cond_false (Eq.trans rfl (congrArg Value.bool (decide_eq_false b2))) ?_
 refine run_exit rfl ?_
 have hz := Option.some.inj a5
 subst hz
 exact c2 _ _ ⟨a4, b8, rfl, hsub, hS, a8, a7⟩
 exact ⟨0, (fun _ => 0), H, a5, hsub, hS, (by omega), rfl, rfl, rfl, rfl⟩
 rintro c7 c0 ⟨a1, b9, rfl, hsub, hS, b0, b3⟩
 dsimp only [Ex.elim] at b6
 refine run_seq (run_region ?_)
 refine r_loadAll ty188 (by exact b3) (hS.get mL) rfl rfl ?_
 have hS : St b9 c0 ([(b4, cA (enc8 .i64 (fun _ => 0)) 188)] ++ ([(b7, cA (enc8 .i64 a1) 188)] ++ ([(b1, cA (enc8 .u8 a0) 70)] ++ L))) := hS.perm (perm1 (A1 := [(b7, cA (enc8 .i64 a1) 188)]))
 refine r_storeAll (v := vA (enc8 .i64 a1)) (vs := (enc8 .i64 a1).toArray) (cs := (enc8 .i64 (fun _ => 0)).toArray) ty188 (by exact b0) rfl rfl hS rfl (enc8_one .i64 a1) rfl ?_
 intro c4 hS
 have hS : St b9 c4 ([(b7, cA (enc8 .i64 a1) 188)] ++ ([(b4, cA (enc8 .i64 a1) 188)] ++ ([(b1, cA (enc8 .u8 a0) 70)] ++ L))) := hS.perm (perm1 (A1 := [(b7, cA (enc8 .i64 a1) 188)])).symm
 refine reg_nil ?_
 refine run_ret (vs := [vA (enc8 .i64 a1)]) Tryz.func176 ⟨⟨_, (by exact b0), run_loadAll ty188 (hS.get (mR mL)) rfl⟩, trivial⟩ ?_
 have hz := Option.some.inj b6
 subst hz
 exact ⟨_, _, rfl, hsub, (St.dropA (A := [(b1, cA (enc8 .u8 a0) 70)]) (St.dropA (A := [(b4, cA (enc8 .i64 a1) 188)]) (St.dropA (A := [(b7, cA (enc8 .i64 a1) 188)]) hS))), ⟨_, rfl, rfl⟩⟩
def g_impl_power_degree_l0 (K : Nat) (a0 : A8) (a1 : (List Int)) : Nat → Int → Int → Option (Ex Int (Int))
 | 0, _, _ => none
 | k + 1, a4, a3 => (if a3 < (a1.length : Int) then (if a3 < 8 then g_impl_power_degree_l0 K a0 a1 k (IntKind.i64.wrap (a4 + (IntKind.i64.wrap ((rd a1 a3) * (idx8 a0 a3))))) (a3 + 1) else none) else some (.go a4))
def g_impl_power_degree (K : Nat) (a0 : A8) (a1 : (List Int)) : Option Int := ((g_impl_power_degree_l0 K a0 a1 K 0 0).bind (Ex.elim (fun r => some r) (fun s => (fun (a7 : Int) => some a7) s)))
theorem g_impl_power_degree_ok {K : Nat} {a0 : A8} {a1 : (List Int)} {r : Int} (q0 : g_impl_power_degree K a0 a1 = some r) {H : FH} {w : World} {L : OL} {s0 : Value} (a8 : RdSl (tyInt .i64) H s0 a1) (hS : St H w L) :
 Calls Tryz.prog 223 #[vA (enc8 .i64 a0), s0] w (Done (fun v G => (R.int .i64).p G v r) H L) := by
 have hsub := Sub.refl H
 refine calls_of_run Tryz.func223 rfl Tryz.ntmps223 rfl ?_
 unfold g_impl_power_degree at q0
 refine run_seq (run_region ?_)
 refine r_box (v := vA (enc8 .i64 a0)) (enc8 .i64 a0).toArray rfl rfl hS rfl ?_
 intro b1 w2 hS
 refine r_assign (vI 0) rfl rfl (reg_nil (run_seq (run_region (r_assign (vI 0) rfl rfl (reg_nil (run_seq (run_seq (run_region (r_move (s0) rfl rfl ?_)))))))))
 have d1 := a8.bound
 refine r_lenRd sl22 rfl a8 rfl (r_move (vI 0) rfl rfl (reg_nil (run_block ?_)))
 obtain ⟨b7, a5, b8⟩ := bind_some q0
 refine loop_ind (id := 0) (fun k f w => ∃ (a4 : Int) (a3 : Int) (H1 : FH), g_impl_power_degree_l0 K a0 a1 k a4 a3 = some b7 ∧ Sub H H1 ∧ St H1 w ([(b1, cA (enc8 .i64 a0) 188)] ++ L) ∧ 0 ≤ a3 ∧ RdSl (tyInt .i64) H1 s0 a1 ∧ ev f (.tmp 2) = vP b1 ∧ ev f (.tmp 5) = vI a4 ∧ ev f (.tmp 8) = s0 ∧ ev f (.tmp 9) = vI (a1.length : Int) ∧ ev f (.tmp 10) = vI a3) (fun f w => ∃ (a7 : Int) (H1 : FH), b7 = .go a7 ∧ Sub H H1 ∧ St H1 w ([(b1, cA (enc8 .i64 a0) 188)] ++ L) ∧ ev f (.tmp 5) = vI a7) rfl ?_ ?_ K ?_ ?_
 rintro f w ⟨a4, a3, H1, a5, _⟩
 rw [g_impl_power_degree_l0] at a5; cases a5
 rintro k c6 c7 c1 c2 ⟨a4, a3, b9, a5, hsub, hS, c0, a8, a9, b0, b2, b3, a6⟩
 rw [g_impl_power_degree_l0] at a5
 refine run_seq (run_region ?_)
 refine r_lss (k := .i64) (a := a3) (b := (a1.length : Int)) (by exact a6) (by exact b3) rfl (reg_nil (run_seq ?_))
 by_cases b4 : a3 < (a1.length : Int)
 rw [if_pos b4] at a5
 refine run_cond_true (Eq.trans rfl (congrArg Value.bool (decide_eq_true b4))) (run_skip (run_seq (run_block (run_seq (run_region (r_move (vI a3) (by exact a6) rfl ?_))))))
 obtain ⟨b6, o6, d2, E6, _, c3, c4, rfl, c5⟩ := a8.elem (i := a3) (by omega) (by omega)
 refine r_indexAt sl22 rfl (by exact b2) c3 (by exact a6) (by omega) (by omega) rfl ?_
 refine r_loadOne (vI (rd a1 a3)) ty2 rfl (hS.froz _ _ c4) (c5 0 (show 0 < 1 by decide)) rfl (r_assign (vI a3) rfl rfl (r_assign (vI (rd a1 a3)) rfl rfl (reg_nil (run_region (r_move (vI a4) (by exact b0) rfl (r_move (vI (rd a1 a3)) rfl rfl (r_move (vI a3) rfl rfl ?_)))))))
 obtain ⟨d3, a5⟩ := gd a5
 refine r_indexArP ar188 (by exact a9) rfl (by omega) (by omega) rfl ?_
 refine r_loadOne (vI (idx8 a0 a3)) ty3 rfl (hS.get (o := cA (enc8 .i64 a0) 188) mL) (box_ix ([]) ([]) (by omega) (by omega)) rfl ?_
 refine r_mul (IntKind.i64.wrap ((rd a1 a3) * (idx8 a0 a3))) rfl rfl rfl rfl ?_
 refine r_add (IntKind.i64.wrap (a4 + (IntKind.i64.wrap ((rd a1 a3) * (idx8 a0 a3))))) rfl rfl rfl rfl (r_assign (vI (IntKind.i64.wrap (a4 + (IntKind.i64.wrap ((rd a1 a3) * (idx8 a0 a3)))))) rfl rfl (reg_nil (run_inBlock (run_region ?_))))
 refine r_add (a3 + 1) (by exact a6) rfl (IntWalk.i64_in _ (by omega)) rfl (r_move (vI (a3 + 1)) rfl rfl (reg_nil ?_))
 exact c1 _ _ ⟨(IntKind.i64.wrap (a4 + (IntKind.i64.wrap ((rd a1 a3) * (idx8 a0 a3))))), (a3 + 1), b9, a5, hsub, hS, (by omega), a8, a9, rfl, b2, b3, rfl⟩
 rw [if_neg b4] at a5
 refine run_cond_false (Eq.trans rfl (congrArg Value.bool (decide_eq_false b4))) ?_
 refine run_exit rfl ?_
 have hz := Option.some.inj a5
 subst hz
 exact c2 _ _ ⟨a4, b9, rfl, hsub, hS, b0⟩
 exact ⟨0, 0, H, a5, hsub, hS, (by omega), a8, rfl, rfl, rfl, rfl, rfl⟩
 rintro c8 c9 ⟨a7, d0, rfl, hsub, hS, b5⟩
 dsimp only [Ex.elim] at b8
 refine run_seq (run_region (r_move (vI a7) (by exact b5) rfl (r_assign (vI a7) rfl rfl (reg_nil ?_))))
 refine run_ret (vs := [vI a7]) Tryz.func223 ⟨rfl, trivial⟩ ?_
 have hz := Option.some.inj b8
 subst hz
 exact ⟨_, _, rfl, hsub, (St.dropA (A := [(b1, cA (enc8 .i64 a0) 188)]) hS), rfl⟩
def g_impl_first_l0 (K : Nat) (a0 : (List Int)) : Nat → Int → Option (Ex Int (Unit))
 | 0, _ => none
 | k + 1, a1 => (if a1 < (a0.length : Int) then (if (rd a0 a1) = 0 then g_impl_first_l0 K a0 k (a1 + 1) else some (.ret (rd a0 a1))) else some (.go ()))
def g_impl_first (K : Nat) (a0 : (List Int)) : Option Int := ((g_impl_first_l0 K a0 K 0).bind (Ex.elim (fun r => some r) (fun s => some 0)))
theorem g_impl_first_ok {K : Nat} {a0 : (List Int)} {r : Int} (q0 : g_impl_first K a0 = some r) {H : FH} {w : World} {L : OL} {s0 : Value} (a5 : RdSl (tyInt .i64) H s0 a0) (hS : St H w L) :
 Calls Tryz.prog 84 #[s0] w (Done (fun v G => (R.int .i64).p G v r) H L) := by
 have hsub := Sub.refl H
 refine calls_of_run Tryz.func84 rfl Tryz.ntmps84 rfl ?_
 unfold g_impl_first at q0
 refine run_seq (run_region (r_assign (vI 0) rfl rfl (reg_nil (run_seq (run_seq (run_region (r_move (s0) rfl rfl ?_)))))))
 have c5 := a5.bound
 refine r_lenRd sl22 rfl a5 rfl (r_move (vI 0) rfl rfl (reg_nil (run_block ?_)))
 obtain ⟨b1, a3, a8⟩ := bind_some q0
 refine loop_ind (id := 0) (fun k f w => ∃ (a1 : Int) (H1 : FH), g_impl_first_l0 K a0 k a1 = some b1 ∧ Sub H H1 ∧ St H1 w (L) ∧ 0 ≤ a1 ∧ RdSl (tyInt .i64) H1 s0 a0 ∧ ev f (.tmp 5) = s0 ∧ ev f (.tmp 6) = vI (a0.length : Int) ∧ ev f (.tmp 7) = vI a1) (fun f w => ∃ (H1 : FH), b1 = .go () ∧ Sub H H1 ∧ St H1 w (L)) rfl ?_ ?_ K ?_ ?_
 rintro f w ⟨a1, H1, a3, _⟩
 rw [g_impl_first_l0] at a3; cases a3
 rintro k c0 c1 b4 b5 ⟨a1, b2, a3, hsub, hS, b6, a5, a6, a7, a4⟩
 rw [g_impl_first_l0] at a3
 refine run_seq (run_region ?_)
 refine r_lss (k := .i64) (a := a1) (b := (a0.length : Int)) (by exact a4) (by exact a7) rfl (reg_nil (run_seq ?_))
 by_cases a9 : a1 < (a0.length : Int)
 rw [if_pos a9] at a3
 refine run_cond_true (Eq.trans rfl (congrArg Value.bool (decide_eq_true a9))) (run_skip (run_seq (run_block (run_seq (run_region ?_)))))
 obtain ⟨b3, o3, c6, E3, _, b7, b8, rfl, b9⟩ := a5.elem (i := a1) (by omega) (by omega)
 refine r_indexAt sl22 rfl (by exact a6) b7 (by exact a4) (by omega) (by omega) rfl ?_
 refine r_loadOne (vI (rd a0 a1)) ty2 rfl (hS.froz _ _ b8) (b9 0 (show 0 < 1 by decide)) rfl (r_assign (vI (rd a0 a1)) rfl rfl (reg_nil (run_seq (run_region (r_move (vI (rd a0 a1)) rfl rfl ?_)))))
 refine r_neq (k := .i64) (a := (rd a0 a1)) (b := 0) rfl rfl rfl (reg_nil ?_)
 by_cases b0 : (rd a0 a1) = 0
 rw [if_pos b0] at a3
 refine run_cond_false (Eq.trans rfl (congrArg (fun b => Value.bool (!b)) (decide_eq_true b0))) (run_skip (run_inBlock (run_region ?_)))
 refine r_add (a1 + 1) (by exact a4) rfl (IntWalk.i64_in _ (by omega)) rfl (r_move (vI (a1 + 1)) rfl rfl (reg_nil ?_))
 exact b4 _ _ ⟨(a1 + 1), b2, a3, hsub, hS, (by omega), a5, a6, a7, rfl⟩
 rw [if_neg b0] at a3
 refine run_cond_true (Eq.trans rfl (congrArg (fun b => Value.bool (!b)) (decide_eq_false b0))) (run_seq (run_region (r_move (vI (rd a0 a1)) rfl rfl (r_assign (vI (rd a0 a1)) rfl rfl (reg_nil ?_)))))
 refine run_ret (vs := [vI (rd a0 a1)]) Tryz.func84 ⟨rfl, trivial⟩ ?_
 have hz := Option.some.inj a3
 subst hz
 dsimp only [Ex.elim] at a8
 have hz := Option.some.inj a8
 subst hz
 exact ⟨_, _, rfl, hsub, hS, rfl⟩
 rw [if_neg a9] at a3
 refine run_cond_false (Eq.trans rfl (congrArg Value.bool (decide_eq_false a9))) ?_
 refine run_exit rfl ?_
 have hz := Option.some.inj a3
 subst hz
 exact b5 _ _ ⟨b2, rfl, hsub, hS⟩
 exact ⟨0, H, a3, hsub, hS, (by omega), a5, rfl, rfl, rfl⟩
 rintro c2 c3 ⟨c4, rfl, hsub, hS⟩
 dsimp only [Ex.elim] at a8
 refine run_seq (run_region (r_assign (vI 0) rfl rfl (reg_nil ?_)))
 refine run_ret (vs := [vI 0]) Tryz.func84 ⟨rfl, trivial⟩ ?_
 have hz := Option.some.inj a8
 subst hz
 exact ⟨_, _, rfl, hsub, hS, rfl⟩
def g_spec_l01In (K : Nat) (a0 : Int) (a1 : Int) (a2 : Int) : Option Bool := (if a1 ≤ a0 then some (decide (a0 ≤ a2)) else some false)
theorem g_spec_l01In_ok {K : Nat} {a0 : Int} {a1 : Int} {a2 : Int} {r : Bool} (q0 : g_spec_l01In K a0 a1 a2 = some r) {H : FH} {w : World} {L : OL} (hS : St H w L) :
 Calls Tryz.prog 93 #[vI a0, vI a1, vI a2] w (Done (fun v G => R.bool.p G v r) H L) := by
 have hsub := Sub.refl H
 refine calls_of_run Tryz.func93 rfl Tryz.ntmps93 rfl ?_
 unfold g_spec_l01In at q0
 refine run_seq (run_region (r_assign (Value.bool false) rfl rfl (reg_nil (run_seq (run_region (r_move (vI a0) rfl rfl (r_move (vI a1) rfl rfl ?_)))))))
 refine r_geq (k := .i64) (a := a0) (b := a1) rfl rfl rfl (r_move (Value.bool (decide (a1 ≤ a0))) rfl rfl ?_)
 by_cases a3 : a1 ≤ a0
 rw [if_pos a3] at q0
 refine reg_guard rfl rfl (Eq.trans rfl (congrArg Value.bool (decide_eq_true a3))) (r_move (vI a0) rfl rfl ?_)
 refine reg_guard rfl rfl (Eq.trans rfl (congrArg Value.bool (decide_eq_true a3))) (r_move (vI a2) rfl rfl ?_)
 refine reg_guard rfl rfl (Eq.trans rfl (congrArg Value.bool (decide_eq_true a3))) ?_
 refine r_leq (k := .i64) (a := a0) (b := a2) rfl rfl rfl ?_
 refine r_pick (t := true) (Value.bool (decide (a0 ≤ a2))) (Eq.trans rfl (congrArg Value.bool (decide_eq_true a3))) ((if_pos rfl).trans rfl) rfl (r_assign (Value.bool (decide (a0 ≤ a2))) rfl rfl (reg_nil ?_))
 refine run_ret (vs := [Value.bool (decide (a0 ≤ a2))]) Tryz.func93 ⟨rfl, trivial⟩ ?_
 have hz := Option.some.inj q0
 subst hz
 exact ⟨_, _, rfl, hsub, hS, rfl⟩
 rw [if_neg a3] at q0
 refine reg_unguard rfl rfl (Eq.trans rfl (congrArg Value.bool (decide_eq_false a3))) rfl rfl rfl (reg_unguard rfl rfl (Eq.trans rfl (congrArg Value.bool (decide_eq_false a3))) rfl rfl rfl (reg_unguard rfl rfl (Eq.trans rfl (congrArg Value.bool (decide_eq_false a3))) rfl rfl rfl ?_))
 refine r_pick (t := false) (Value.bool false) (Eq.trans rfl (congrArg Value.bool (decide_eq_false a3))) ((if_neg Bool.false_ne_true).trans rfl) rfl (r_assign (Value.bool false) rfl rfl (reg_nil ?_))
 refine run_ret (vs := [Value.bool false]) Tryz.func93 ⟨rfl, trivial⟩ ?_
 have hz := Option.some.inj q0
 subst hz
 exact ⟨_, _, rfl, hsub, hS, rfl⟩
def g_spec_l01Mod (K : Nat) (a0 : Int) : Option Int := some (((IntKind.i64.wrap (((a0).tmod 10007) + 10007))).tmod 10007)
theorem g_spec_l01Mod_ok {K : Nat} {a0 : Int} {r : Int} (q0 : g_spec_l01Mod K a0 = some r) {H : FH} {w : World} {L : OL} (hS : St H w L) :
 Calls Tryz.prog 217 #[vI a0] w (Done (fun v G => (R.int .i64).p G v r) H L) := by
 have hsub := Sub.refl H
 refine calls_of_run Tryz.func217 rfl Tryz.ntmps217 rfl ?_
 unfold g_spec_l01Mod at q0
 refine run_seq (run_region (r_assign (vI 0) rfl rfl (reg_nil (run_seq (run_region (r_move (vI a0) rfl rfl ?_))))))
 refine r_rem ((a0).tmod 10007) rfl rfl (by decide) rfl rfl ?_
 refine r_add (IntKind.i64.wrap (((a0).tmod 10007) + 10007)) rfl rfl rfl rfl ?_
 refine r_rem (((IntKind.i64.wrap (((a0).tmod 10007) + 10007))).tmod 10007) rfl rfl (by decide) rfl rfl (r_assign (vI (((IntKind.i64.wrap (((a0).tmod 10007) + 10007))).tmod 10007)) rfl rfl (reg_nil ?_))
 refine run_ret (vs := [vI (((IntKind.i64.wrap (((a0).tmod 10007) + 10007))).tmod 10007)]) Tryz.func217 ⟨rfl, trivial⟩ ?_
 have hz := Option.some.inj q0
 subst hz
 exact ⟨_, _, rfl, hsub, hS, rfl⟩
end Go.Proofs.YtfodlhkoafhplaaGreat
