/- Walks of functions: each computes its pure function, if that gives a value. -/
import Derived.Test.YtfodlhkoafhplaaGreatSTy
import Derived.Test.YtfodlhkoafhplaaGreatSF5
import Derived.Test.YtfodlhkoafhplaaGreatSF8
import Derived.Test.YtfodlhkoafhplaaGreatSF10
import Derived.Test.YtfodlhkoafhplaaGreatSF2
import Derived.Test.YtfodlhkoafhplaaGreatSF3
namespace Go.Proofs.YtfodlhkoafhplaaGreat
open Go
set_option linter.unusedSimpArgs false
set_option linter.unusedVariables false
set_option maxRecDepth 100000
set_option maxHeartbeats 1000000
def g_spec_l02D_j98 (K : Nat) (lk2 : Int → A8 → A8 → Option (Ex MpT (A8 × A8))) (a4 : Int) (a8 : Int) (b2 : A8) (b3 : A8) : Option (Ex MpT (A8 × A8)) := (if a8 ≤ a4 then lk2 (a8 + 1) b3 (upd8 b2 a8 0) else lk2 (a8 + 1) b3 b2)
def g_spec_l02D_j99 (K : Nat) (lk1 : Int → MpT → Option (Ex MpT (MpT))) (a0 : ((List Int) × (List MpT))) (a1 : MpT) (a3 : Int) (a4 : Int) (b0 : MpT) (a5 : A8) (a9 : A8) (c8 : Int) : Option (Ex MpT (MpT)) := ((g_spec_l01Single K (upd8 a5 a4 (IntKind.u8.wrap ((idx8 ((rd a1 a3).1) a4) - 1))) 1).bind fun l6 => (if a4 < (a0.2.length : Int) then ((g_spec_l01Times K a0.1 l6 (rd a0.2 a4)).bind fun j0 => ((g_spec_l01Single K a9 1).bind fun l7 => ((g_spec_l01Times K a0.1 j0 l7).bind fun l9 => ((g_spec_l01Mod K c8).bind fun m0 => ((g_spec_l01Add K b0 l9 m0).bind fun j1 => lk1 (a4 + 1) j1))))) else none))
def g_spec_l02D_l2 (K : Nat) (a4 : Int) : Nat → Int → A8 → A8 → Option (Ex MpT (A8 × A8))
 | 0, _, _, _ => none
 | k + 1, a8, b8, b2 => (if a8 < 8 then (if a4 ≤ a8 then g_spec_l02D_j98 K (g_spec_l02D_l2 K a4 k) a4 a8 b2 (upd8 b8 a8 0) else g_spec_l02D_j98 K (g_spec_l02D_l2 K a4 k) a4 a8 b2 b8) else some (.go (b8, b2)))
def g_spec_l02D_l1 (K : Nat) (a0 : ((List Int) × (List MpT))) (a1 : MpT) (a3 : Int) : Nat → Int → MpT → Option (Ex MpT (MpT))
 | 0, _, _ => none
 | k + 1, a4, b0 => (if a4 < (a0.1.length : Int) then (if a4 < 8 then (if (idx8 ((rd a1 a3).1) a4) = 0 then g_spec_l02D_l1 K a0 a1 a3 k (a4 + 1) b0 else ((g_spec_l02D_l2 K a4 K 0 ((rd a1 a3).1) ((rd a1 a3).1)).bind (Ex.elim (fun r => some (.ret r)) (fun s => (fun (a5 : A8) (a9 : A8) => ((g_spec_l01Weight K a0.1 a5).bind fun j2 => (if ((j2).tmod 2) = 0 then g_spec_l02D_j99 K (g_spec_l02D_l1 K a0 a1 a3 k) a0 a1 a3 a4 b0 a5 a9 (IntKind.i64.wrap ((rd a1 a3).2 * (IntKind.i64.wrap (idx8 ((rd a1 a3).1) a4)))) else g_spec_l02D_j99 K (g_spec_l02D_l1 K a0 a1 a3 k) a0 a1 a3 a4 b0 a5 a9 (IntKind.i64.wrap (0 - (IntKind.i64.wrap ((rd a1 a3).2 * (IntKind.i64.wrap (idx8 ((rd a1 a3).1) a4))))))))) s.1 s.2)))) else none) else some (.go b0))
def g_spec_l02D_l0 (K : Nat) (a0 : ((List Int) × (List MpT))) (a1 : MpT) : Nat → Int → MpT → Option (Ex MpT (MpT))
 | 0, _, _ => none
 | k + 1, a3, c1 => (if a3 < (a1.length : Int) then ((g_spec_l02D_l1 K a0 a1 a3 K 0 c1).bind (Ex.elim (fun r => some (.ret r)) (fun s => (fun (c9 : MpT) => g_spec_l02D_l0 K a0 a1 k (a3 + 1) c9) s))) else some (.go c1))
def g_spec_l02D (K : Nat) (a0 : ((List Int) × (List MpT))) (a1 : MpT) : Option MpT := ((g_spec_l02D_l0 K a0 a1 K 0 ([] : List (A8 × Int))).bind (Ex.elim (fun r => some r) (fun s => (fun (d1 : MpT) => some d1) s)))
theorem g_spec_l02D_ok {K : Nat} {a0 : ((List Int) × (List MpT))} {a1 : MpT} {r : MpT} (q0 : g_spec_l02D K a0 a1 = some r) {H : FH} {w : World} {L : OL} {s0 : Value} {s1 : Value} {s2 : Value} (b6 : RdSl (tyInt .i64) H s0 a0.1) (c0 : RdSl (tySl yT) H s1 a0.2) (b9 : RdSl yT H s2 a1) (hS : St H w L) :
 Calls Tryz.prog 123 #[vA ([s0] ++ [s1]), vA ([s2])] w (Done (fun v G => (R.agg (tySl yT)).p G v r) H L) := by
 have hsub := Sub.refl H
 refine calls_of_run Tryz.func123 rfl Tryz.ntmps123 rfl ?_
 unfold g_spec_l02D at q0
 refine run_seq (run_region ?_)
 refine r_box (v := vA ([s0] ++ [s1])) ([s0] ++ [s1]).toArray rfl rfl hS rfl ?_
 intro b1 w2 hS
 refine r_box (v := vA ([s2])) ([s2]).toArray rfl rfl hS rfl ?_
 intro b4 w5 hS
 refine r_alloc (z := vA ([vN])) ([vN]).toArray ze47.zero rfl hS rfl ?_
 intro b7 w8 hS
 refine reg_nil (run_seq (run_region ?_))
 refine r_build0 (vA ([vN])) bz47 rfl ?_
 refine r_alloc (z := vA ([vN])) ([vN]).toArray ze47.zero rfl hS rfl ?_
 intro c2 w11 hS
 refine r_storeAll (v := vA ([vN])) (vs := ([vN]).toArray) (cs := ([vN]).toArray) ty47 rfl rfl rfl hS rfl (one1 rfl) rfl ?_
 intro w13 hS
 refine reg_nil (run_seq (run_seq (run_region (r_assign (vI 0) rfl rfl (reg_nil (run_block ?_))))))
 have r3 : RdSl yT H (.slice none 0 0) ([] : List (A8 × Int)) := RdSl.nil
 obtain ⟨r4, d9, r5⟩ := bind_some q0
 refine loop_ind (id := 0) (fun k f w => ∃ (a3 : Int) (c1 : MpT) (H1 : FH) (c7 : Value), g_spec_l02D_l0 K a0 a1 k a3 c1 = some r4 ∧ Sub H H1 ∧ St H1 w ([(c2, cA ([c7]) 47)] ++ ([(b7, cA ([vN]) 47)] ++ ([(b4, cA ([s2]) 47)] ++ ([(b1, cA ([s0] ++ [s1]) 29)] ++ L)))) ∧ 0 ≤ a3 ∧ RdSl yT H1 c7 c1 ∧ RdSl (tyInt .i64) H1 s0 a0.1 ∧ RdSl (tySl yT) H1 s1 a0.2 ∧ RdSl yT H1 s2 a1 ∧ ev f (.tmp 2) = vP b1 ∧ ev f (.tmp 3) = vP b4 ∧ ev f (.tmp 4) = vP b7 ∧ ev f (.tmp 5) = vP c2 ∧ ev f (.tmp 6) = vI a3) (fun f w => ∃ (d1 : MpT) (H1 : FH) (b5 : Value), r4 = .go d1 ∧ Sub H H1 ∧ St H1 w ([(c2, cA ([b5]) 47)] ++ ([(b7, cA ([vN]) 47)] ++ ([(b4, cA ([s2]) 47)] ++ ([(b1, cA ([s0] ++ [s1]) 29)] ++ L)))) ∧ RdSl yT H1 b5 d1 ∧ RdSl (tyInt .i64) H1 s0 a0.1 ∧ RdSl (tySl yT) H1 s1 a0.2 ∧ RdSl yT H1 s2 a1 ∧ ev f (.tmp 4) = vP b7 ∧ ev f (.tmp 5) = vP c2) rfl ?_ ?_ K ?_ ?_
 rintro f w ⟨a3, c1, H1, c7, d9, _⟩
 rw [g_spec_l02D_l0] at d9; cases d9
 rintro k aj5 aj6 ih0 hx0 ⟨a3, c1, r6, c7, d9, hsub, hS, ab1, e9, b6, c0, b9, p3, g3, k1, k2, g4⟩
 rw [g_spec_l02D_l0] at d9
 refine run_seq (run_seq (run_region (r_move (vI a3) (by exact g4) rfl (r_fieldAddr fld47_0 (by exact g3) rfl ?_))))
 refine r_loadOne (s2) ty45 rfl (hS.get (mR (mR mL))) rfl rfl ?_
 have aj7 := b9.bound
 refine r_lenRd sl45 rfl b9 rfl ?_
 refine r_lss (k := .i64) (a := a3) (b := (a1.length : Int)) rfl rfl rfl (reg_nil ?_)
 by_cases m1 : a3 < (a1.length : Int)
 rw [if_pos m1] at d9
 refine run_cond_true (Eq.trans rfl (congrArg Value.bool (decide_eq_true m1))) (run_skip (run_seq (run_block (run_seq (run_region (r_fieldAddr fld47_0 (by exact g3) rfl ?_))))))
 refine r_loadOne (s2) ty45 rfl (hS.get (mR (mR mL))) rfl rfl (r_move (vI a3) (by exact g4) rfl ?_)
 obtain ⟨b16, o16, aj8, E16, _, a30, a31, ⟨_, _, rfl, rfl, rfl⟩, a32⟩ := b9.elem (i := a3) (by omega) (by omega)
 refine r_indexAt sl45 rfl rfl a30 rfl (by omega) (by omega) rfl (r_fieldAddr fld76_0 rfl rfl ?_)
 refine r_loadAgg (enc8 .u8 ((rd a1 a3).1)) ty70 rfl (hS.froz _ _ a31) rfl (sub_cells ([]) (enc8 .u8 ((rd a1 a3).1)) (([vI ((rd a1 a3).2)])) a32 (Nat.le_of_ble_eq_true rfl)) rfl ?_
 refine r_alloc (z := vA (enc8 .u8 (fun _ => 0))) (enc8 .u8 (fun _ => 0)).toArray ze70.zero rfl hS rfl ?_
 intro c5 w18 hS
 refine r_storeAll (v := vA (enc8 .u8 ((rd a1 a3).1))) (vs := (enc8 .u8 ((rd a1 a3).1)).toArray) (cs := (enc8 .u8 (fun _ => 0)).toArray) ty70 rfl rfl rfl hS rfl (enc8_one .u8 ((rd a1 a3).1)) rfl ?_
 intro w20 hS
 refine reg_nil (run_seq (run_region (r_assign (vI 0) rfl rfl (reg_nil (run_block ?_)))))
 obtain ⟨n3, d0, r7⟩ := bind_some d9
 refine loop_ind (id := 2) (fun k f w => ∃ (a4 : Int) (b0 : MpT) (H1 : FH) (a6 : Value), g_spec_l02D_l1 K a0 a1 a3 k a4 b0 = some n3 ∧ Sub H H1 ∧ St H1 w ([(c5, cA (enc8 .u8 ((rd a1 a3).1)) 70)] ++ ([(c2, cA ([a6]) 47)] ++ ([(b7, cA ([vN]) 47)] ++ ([(b4, cA ([s2]) 47)] ++ ([(b1, cA ([s0] ++ [s1]) 29)] ++ L))))) ∧ 0 ≤ a4 ∧ RdSl yT H1 a6 b0 ∧ RdSl (tyInt .i64) H1 s0 a0.1 ∧ RdSl (tySl yT) H1 s1 a0.2 ∧ RdSl yT H1 s2 a1 ∧ ev f (.tmp 2) = vP b1 ∧ ev f (.tmp 3) = vP b4 ∧ ev f (.tmp 4) = vP b7 ∧ ev f (.tmp 5) = vP c2 ∧ ev f (.tmp 6) = vI a3 ∧ ev f (.tmp 7) = vP c5 ∧ ev f (.tmp 8) = vI a4) (fun f w => ∃ (c9 : MpT) (H1 : FH) (d4 : Value), n3 = .go c9 ∧ Sub H H1 ∧ St H1 w ([(c5, cA (enc8 .u8 ((rd a1 a3).1)) 70)] ++ ([(c2, cA ([d4]) 47)] ++ ([(b7, cA ([vN]) 47)] ++ ([(b4, cA ([s2]) 47)] ++ ([(b1, cA ([s0] ++ [s1]) 29)] ++ L))))) ∧ RdSl yT H1 d4 c9 ∧ RdSl (tyInt .i64) H1 s0 a0.1 ∧ RdSl (tySl yT) H1 s1 a0.2 ∧ RdSl yT H1 s2 a1 ∧ ev f (.tmp 2) = vP b1 ∧ ev f (.tmp 3) = vP b4 ∧ ev f (.tmp 4) = vP b7 ∧ ev f (.tmp 5) = vP c2 ∧ ev f (.tmp 6) = vI a3) rfl ?_ ?_ K ?_ ?_
 rintro f w ⟨a4, b0, H1, a6, d0, _⟩
 rw [g_spec_l02D_l1] at d0; cases d0
 rintro k aj9 ak0 ih1 hx1 ⟨a4, b0, r8, a6, d0, hsub, hS, ab3, a7, b6, c0, b9, e4, g5, g6, g7, g8, e0, e5⟩
 rw [g_spec_l02D_l1] at d0
 refine run_seq (run_seq (run_region (r_move (vI a4) (by exact e5) rfl (r_fieldAddr fld29_0 (by exact e4) rfl ?_))))
 refine r_loadOne (s0) ty22 rfl (hS.get (mR (mR (mR (mR mL))))) rfl rfl ?_
 have ak1 := b6.bound
 refine r_lenRd sl22 rfl b6 rfl ?_
 refine r_lss (k := .i64) (a := a4) (b := (a0.1.length : Int)) rfl rfl rfl (reg_nil ?_)
 by_cases m2 : a4 < (a0.1.length : Int)
 rw [if_pos m2] at d0
 refine run_cond_true (Eq.trans rfl (congrArg Value.bool (decide_eq_true m2))) (run_skip (run_seq (run_block (run_seq (run_seq (run_region (r_move (vI a4) (by exact e5) rfl ?_)))))))
 obtain ⟨ak2, d0⟩ := gd d0
 refine r_indexArP ar70 (by exact e0) rfl (by omega) (by omega) rfl ?_
 refine r_loadOne (Value.int .u8 (idx8 ((rd a1 a3).1) a4)) ty5 rfl (hS.get (o := cA (enc8 .u8 ((rd a1 a3).1)) 70) mL) (box_ix ([]) ([]) (by omega) (by omega)) rfl ?_
 refine r_eql (k := .u8) (a := (idx8 ((rd a1 a3).1) a4)) (b := 0) rfl rfl rfl (reg_nil ?_)
 by_cases m3 : (idx8 ((rd a1 a3).1) a4) = 0
 rw [if_pos m3] at d0
 refine run_cond_true (Eq.trans rfl (congrArg Value.bool (decide_eq_true m3))) ?_
 refine run_exit rfl (run_region (r_move (vI a4) (by exact e5) rfl ?_))
 refine r_add (a4 + 1) rfl rfl (IntWalk.i64_in _ (by omega)) rfl (r_assign (vI (a4 + 1)) rfl rfl (reg_nil ?_))
 exact ih1 _ _ ⟨(a4 + 1), b0, r8, a6, d0, hsub, hS, (by omega), a7, b6, c0, b9, e4, g5, g6, g7, g8, e0, rfl⟩
 rw [if_neg m3] at d0
 refine run_cond_false (Eq.trans rfl (congrArg Value.bool (decide_eq_false m3))) (run_skip (run_seq ?_))
 refine run_draw 6 (tabL [(40, MP.eq (vA (enc8 .u8 ((rd a1 a3).1)))), (41, MP.eq (vA (enc8 .u8 ((rd a1 a3).1)))), (9, MP.box (cA (enc8 .u8 (fun _ => 0)) 70)), (10, MP.box (cA (enc8 .u8 (fun _ => 0)) 70))]) [Co.st 2 9 4 0 40 (objA 70), Co.st 3 10 5 1 41 (objA 70)] mixed rfl (conOk_num (ns := [(2, 9, 4, 0, 40), (3, 10, 5, 1, 41)]) rfl rfl) rfl hS (hop_q rfl ?_ (hop_q rfl ?_ (hop_q rfl ?_ (hop_q rfl ?_ (hop_s rfl ?_ (hop_s rfl ?_ hop_nil)))))) ?_
 intro f25 w26 H27 X28 ak3 hS a33 ak4 hcq
 refine r_loadAll ty70 (evT (a33 7 rfl) e0) (hS.get (mR mL)) rfl rfl ?_
 exact qn (.refl _) rfl hS rfl
 intro f34 w35 H36 X37 ak5 hS a34 ak6 hcq
 refine r_loadAll ty70 (evT (a34 7 rfl) e0) (hS.get (mR mL)) rfl rfl ?_
 exact qn (.refl _) rfl hS rfl
 intro f43 w44 H45 X46 ak7 hS ak8 ak9 hcq
 refine r_alloc (z := vA (enc8 .u8 (fun _ => 0))) (enc8 .u8 (fun _ => 0)).toArray ze70.zero rfl hS rfl ?_
 intro b51 w52 hS
 exact qn (.refl _) rfl hS ⟨_, rfl⟩
 intro f54 w55 H56 X57 al0 hS al1 al2 hcq
 refine r_alloc (z := vA (enc8 .u8 (fun _ => 0))) (enc8 .u8 (fun _ => 0)).toArray ze70.zero rfl hS rfl ?_
 intro b62 w63 hS
 exact qn (.refl _) rfl hS ⟨_, rfl⟩
 intro j3 w66 H67 X68 al3 hS al4 r9 hcq
 have hsub := Sub.refl H67
 obtain ⟨b73, n1⟩ := r9 2 9 rfl rfl
 have n1 : j3 9 = vP b73 := n1
 have hS : St H67 w66 (ptrRes (cA (enc8 .u8 (fun _ => 0)) 70) (j3 9) ++ (X68 ++ ([(c5, cA (enc8 .u8 ((rd a1 a3).1)) 70)] ++ ([(c2, cA ([a6]) 47)] ++ ([(b7, cA ([vN]) 47)] ++ ([(b4, cA ([s2]) 47)] ++ ([(b1, cA ([s0] ++ [s1]) 29)] ++ L))))))) := hS
 rw [n1] at hS
 have q76 : ev j3 (.tmp 9) = vP b73 := n1
 have q77 : ev j3 (.tmp 40) = vA (enc8 .u8 ((rd a1 a3).1)) := r9 0 40 rfl rfl
 refine r_storeAll (v := vA (enc8 .u8 ((rd a1 a3).1))) (vs := (enc8 .u8 ((rd a1 a3).1)).toArray) (cs := (enc8 .u8 (fun _ => 0)).toArray) ty70 q76 q77 rfl hS rfl (enc8_one .u8 ((rd a1 a3).1)) rfl ?_
 intro w78 hS
 have g79 : j3 40 = vA (enc8 .u8 ((rd a1 a3).1)) := q77
 exact reg_nil ⟨_, rfl, rfl, hsub, by show St _ _ (ptrRes (objA 70 (j3 40)) (j3 9) ++ _); rw [n1, g79]; exact hS, trivial⟩
 intro j4 w81 H82 X83 al5 hS al6 s3 hcq
 have hsub := Sub.refl H82
 obtain ⟨b88, n2⟩ := s3 3 10 rfl rfl
 have n2 : j4 10 = vP b88 := n2
 have hS : St H82 w81 (ptrRes (cA (enc8 .u8 (fun _ => 0)) 70) (j4 10) ++ (X83 ++ ([(c5, cA (enc8 .u8 ((rd a1 a3).1)) 70)] ++ ([(c2, cA ([a6]) 47)] ++ ([(b7, cA ([vN]) 47)] ++ ([(b4, cA ([s2]) 47)] ++ ([(b1, cA ([s0] ++ [s1]) 29)] ++ L))))))) := hS
 rw [n2] at hS
 have q91 : ev j4 (.tmp 10) = vP b88 := n2
 have q92 : ev j4 (.tmp 41) = vA (enc8 .u8 ((rd a1 a3).1)) := s3 1 41 rfl rfl
 refine r_storeAll (v := vA (enc8 .u8 ((rd a1 a3).1))) (vs := (enc8 .u8 ((rd a1 a3).1)).toArray) (cs := (enc8 .u8 (fun _ => 0)).toArray) ty70 q91 q92 rfl hS rfl (enc8_one .u8 ((rd a1 a3).1)) rfl ?_
 intro w93 hS
 have g94 : j4 41 = vA (enc8 .u8 ((rd a1 a3).1)) := q92
 exact reg_nil ⟨_, rfl, rfl, hsub, by show St _ _ (ptrRes (objA 70 (j4 41)) (j4 10) ++ _); rw [n2, g94]; exact hS, trivial⟩
 intro e3 w96 H97 j5 hS f1 i4 hcq
 have hS : St H97 w96 ((ptrRes (objA 70 (e3 40)) (e3 9) ++ (ptrRes (objA 70 (e3 41)) (e3 10) ++ ([]))) ++ ([(c5, cA (enc8 .u8 ((rd a1 a3).1)) 70)] ++ ([(c2, cA ([a6]) 47)] ++ ([(b7, cA ([vN]) 47)] ++ ([(b4, cA ([s2]) 47)] ++ ([(b1, cA ([s0] ++ [s1]) 29)] ++ L)))))) := hS
 have hsub := hsub.trans j5
 have b6 := b6.mono j5
 have c0 := c0.mono j5
 have b9 := b9.mono j5
 have a7 := a7.mono j5
 have a35 : ev e3 (.tmp 40) = vA (enc8 .u8 ((rd a1 a3).1)) := i4 0 40 (by decide) rfl
 have a36 : ev e3 (.tmp 41) = vA (enc8 .u8 ((rd a1 a3).1)) := i4 1 41 (by decide) rfl
 obtain ⟨c3, g9⟩ := i4 2 9 (by decide) rfl
 have g9 : e3 9 = vP c3 := g9
 rw [g9] at hS
 have g9 : ev e3 (.tmp 9) = _ := g9
 have a37 : e3 40 = vA (enc8 .u8 ((rd a1 a3).1)) := a35
 rw [a37] at hS
 obtain ⟨c6, h0⟩ := i4 3 10 (by decide) rfl
 have h0 : e3 10 = vP c6 := h0
 rw [h0] at hS
 have h0 : ev e3 (.tmp 10) = _ := h0
 have a38 : e3 41 = vA (enc8 .u8 ((rd a1 a3).1)) := a36
 rw [a38] at hS
 refine reg_nil (run_seq (run_seq (run_region (r_assign (vI 0) rfl rfl (reg_nil (run_block ?_))))))
 obtain ⟨n4, d3, f2⟩ := bind_some d0
 refine loop_ind (id := 4) (fun k f w => ∃ (a8 : Int) (b8 : A8) (b2 : A8) (H1 : FH), g_spec_l02D_l2 K a4 k a8 b8 b2 = some n4 ∧ Sub H H1 ∧ St H1 w ([(c3, cA (enc8 .u8 b8) 70)] ++ ([(c6, cA (enc8 .u8 b2) 70)] ++ ([(c5, cA (enc8 .u8 ((rd a1 a3).1)) 70)] ++ ([(c2, cA ([a6]) 47)] ++ ([(b7, cA ([vN]) 47)] ++ ([(b4, cA ([s2]) 47)] ++ ([(b1, cA ([s0] ++ [s1]) 29)] ++ L))))))) ∧ 0 ≤ a8 ∧ RdSl (tyInt .i64) H1 s0 a0.1 ∧ RdSl (tySl yT) H1 s1 a0.2 ∧ RdSl yT H1 s2 a1 ∧ RdSl yT H1 a6 b0 ∧ ev f (.tmp 2) = vP b1 ∧ ev f (.tmp 3) = vP b4 ∧ ev f (.tmp 4) = vP b7 ∧ ev f (.tmp 5) = vP c2 ∧ ev f (.tmp 6) = vI a3 ∧ ev f (.tmp 7) = vP c5 ∧ ev f (.tmp 8) = vI a4 ∧ ev f (.tmp 9) = vP c3 ∧ ev f (.tmp 10) = vP c6 ∧ ev f (.tmp 11) = vI a8) (fun f w => ∃ (a5 : A8) (a9 : A8) (H1 : FH), n4 = .go (a5, a9) ∧ Sub H H1 ∧ St H1 w ([(c3, cA (enc8 .u8 a5) 70)] ++ ([(c6, cA (enc8 .u8 a9) 70)] ++ ([(c5, cA (enc8 .u8 ((rd a1 a3).1)) 70)] ++ ([(c2, cA ([a6]) 47)] ++ ([(b7, cA ([vN]) 47)] ++ ([(b4, cA ([s2]) 47)] ++ ([(b1, cA ([s0] ++ [s1]) 29)] ++ L))))))) ∧ RdSl (tyInt .i64) H1 s0 a0.1 ∧ RdSl (tySl yT) H1 s1 a0.2 ∧ RdSl yT H1 s2 a1 ∧ RdSl yT H1 a6 b0 ∧ ev f (.tmp 2) = vP b1 ∧ ev f (.tmp 3) = vP b4 ∧ ev f (.tmp 4) = vP b7 ∧ ev f (.tmp 5) = vP c2 ∧ ev f (.tmp 6) = vI a3 ∧ ev f (.tmp 7) = vP c5 ∧ ev f (.tmp 8) = vI a4 ∧ ev f (.tmp 9) = vP c3 ∧ ev f (.tmp 10) = vP c6) rfl ?_ ?_ K ?_ ?_
 rintro f w ⟨a8, b8, b2, H1, d3, _⟩
 rw [g_spec_l02D_l2] at d3; cases d3
 rintro k al7 al8 ih2 hx2 ⟨a8, b8, b2, n5, d3, hsub, hS, aa7, b6, c0, b9, a7, h1, h2, h3, h4, h5, h6, e6, e7, f3, d8⟩
 rw [g_spec_l02D_l2] at d3
 refine run_seq (run_seq (run_region (r_move (vI a8) (by exact d8) rfl ?_)))
 refine r_lss (k := .i64) (a := a8) (b := 8) rfl rfl rfl (reg_nil ?_)
 by_cases i5 : a8 < 8
 rw [if_pos i5] at d3
 refine run_cond_true (Eq.trans rfl (congrArg Value.bool (decide_eq_true i5))) (run_skip (run_seq (run_block (run_seq (run_seq (run_region (r_move (vI a8) (by exact d8) rfl (r_move (vI a4) (by exact e6) rfl ?_))))))))
 refine r_geq (k := .i64) (a := a8) (b := a4) rfl rfl rfl (reg_nil ?_)
 refine run_cut (fun f w => ∃ (b3 : A8) (H1 : FH), g_spec_l02D_j98 K (g_spec_l02D_l2 K a4 k) a4 a8 b2 b3 = some n4 ∧ Sub H H1 ∧ St H1 w ([(c3, cA (enc8 .u8 b3) 70)] ++ ([(c6, cA (enc8 .u8 b2) 70)] ++ ([(c5, cA (enc8 .u8 ((rd a1 a3).1)) 70)] ++ ([(c2, cA ([a6]) 47)] ++ ([(b7, cA ([vN]) 47)] ++ ([(b4, cA ([s2]) 47)] ++ ([(b1, cA ([s0] ++ [s1]) 29)] ++ L))))))) ∧ RdSl (tyInt .i64) H1 s0 a0.1 ∧ RdSl (tySl yT) H1 s1 a0.2 ∧ RdSl yT H1 s2 a1 ∧ RdSl yT H1 a6 b0 ∧ ev f (.tmp 2) = vP b1 ∧ ev f (.tmp 3) = vP b4 ∧ ev f (.tmp 4) = vP b7 ∧ ev f (.tmp 5) = vP c2 ∧ ev f (.tmp 6) = vI a3 ∧ ev f (.tmp 7) = vP c5 ∧ ev f (.tmp 8) = vI a4 ∧ ev f (.tmp 9) = vP c3 ∧ ev f (.tmp 10) = vP c6 ∧ ev f (.tmp 11) = vI a8) ?_ ?_
 rintro al9 s4 ⟨b3, f7, f8, hsub, hS, b6, c0, b9, a7, k3, k4, k5, k6, k7, k8, h7, k9, f4, e1⟩
 unfold g_spec_l02D_j98 at f8
 refine run_seq (run_region (r_move (vI a8) (by exact e1) rfl (r_move (vI a4) (by exact h7) rfl ?_)))
 refine r_leq (k := .i64) (a := a8) (b := a4) rfl rfl rfl (reg_nil ?_)
 by_cases i6 : a8 ≤ a4
 rw [if_pos i6] at f8
 refine run_cond_true (Eq.trans rfl (congrArg Value.bool (decide_eq_true i6))) (run_region (r_move (vI a8) (by exact e1) rfl ?_))
 refine r_indexArP ar70 (by exact f4) rfl (by omega) (by omega) rfl ?_
 have hS : St f7 s4 ([(c6, cA (enc8 .u8 b2) 70)] ++ ([(c3, cA (enc8 .u8 b3) 70)] ++ ([(c5, cA (enc8 .u8 ((rd a1 a3).1)) 70)] ++ ([(c2, cA ([a6]) 47)] ++ ([(b7, cA ([vN]) 47)] ++ ([(b4, cA ([s2]) 47)] ++ ([(b1, cA ([s0] ++ [s1]) 29)] ++ L))))))) := hS.perm (perm1 (A1 := [(c3, cA (enc8 .u8 b3) 70)]))
 refine r_store (v := Value.int .u8 0) (cs := (enc8 .u8 b2).toArray) (cs' := (enc8 .u8 (upd8 b2 a8 0)).toArray) ty5 rfl rfl hS rfl (oneL rfl) (by simp [enc8, encV]; omega) (enc8_set (by omega) (by omega)) ?_
 intro a39 hS
 have hS : St f7 a39 ([(c3, cA (enc8 .u8 b3) 70)] ++ ([(c6, cA (enc8 .u8 (upd8 b2 a8 0)) 70)] ++ ([(c5, cA (enc8 .u8 ((rd a1 a3).1)) 70)] ++ ([(c2, cA ([a6]) 47)] ++ ([(b7, cA ([vN]) 47)] ++ ([(b4, cA ([s2]) 47)] ++ ([(b1, cA ([s0] ++ [s1]) 29)] ++ L))))))) := hS.perm (perm1 (A1 := [(c3, cA (enc8 .u8 b3) 70)])).symm
 refine reg_nil (run_inBlock (run_region (r_move (vI a8) (by exact e1) rfl ?_)))
 refine r_add (a8 + 1) rfl rfl (IntWalk.i64_in _ (by omega)) rfl (r_assign (vI (a8 + 1)) rfl rfl (reg_nil ?_))
 exact ih2 _ _ ⟨(a8 + 1), b3, (upd8 b2 a8 0), f7, f8, hsub, hS, (by omega), b6, c0, b9, a7, k3, k4, k5, k6, k7, k8, h7, k9, f4, rfl⟩
 rw [if_neg i6] at f8
 refine run_cond_false (Eq.trans rfl (congrArg Value.bool (decide_eq_false i6))) (run_skip (run_inBlock (run_region (r_move (vI a8) (by exact e1) rfl ?_))))
 refine r_add (a8 + 1) rfl rfl (IntWalk.i64_in _ (by omega)) rfl (r_assign (vI (a8 + 1)) rfl rfl (reg_nil ?_))
 exact ih2 _ _ ⟨(a8 + 1), b3, b2, f7, f8, hsub, hS, (by omega), b6, c0, b9, a7, k3, k4, k5, k6, k7, k8, h7, k9, f4, rfl⟩
 intro s5
 by_cases i7 : a4 ≤ a8
 rw [if_pos i7] at d3
 refine run_cond_true (Eq.trans rfl (congrArg Value.bool (decide_eq_true i7))) (run_region (r_move (vI a8) (by exact d8) rfl ?_))
 refine r_indexArP ar70 (by exact e7) rfl (by omega) (by omega) rfl ?_
 refine r_store (v := Value.int .u8 0) (cs := (enc8 .u8 b8).toArray) (cs' := (enc8 .u8 (upd8 b8 a8 0)).toArray) ty5 rfl rfl hS rfl (oneL rfl) (by simp [enc8, encV]; omega) (enc8_set (by omega) (by omega)) ?_
 intro am0 hS
 refine reg_nil ?_
 exact s5 _ _ ⟨(upd8 b8 a8 0), n5, d3, hsub, hS, b6, c0, b9, a7, h1, h2, h3, h4, h5, h6, e6, e7, f3, d8⟩
 rw [if_neg i7] at d3
 refine run_cond_false (Eq.trans rfl (congrArg Value.bool (decide_eq_false i7))) (run_skip ?_)
 exact s5 _ _ ⟨b8, n5, d3, hsub, hS, b6, c0, b9, a7, h1, h2, h3, h4, h5, h6, e6, e7, f3, d8⟩
 rw [if_neg i5] at d3
 refine run_cond_false (Eq.trans rfl (congrArg Value.bool (decide_eq_false i5))) ?_
 refine run_exit rfl ?_
 have hz := Option.some.inj d3
 subst hz
 exact hx2 _ _ ⟨b8, b2, n5, rfl, hsub, hS, b6, c0, b9, a7, h1, h2, h3, h4, h5, h6, e6, e7, f3⟩
 exact ⟨0, ((rd a1 a3).1), ((rd a1 a3).1), H97, d3, hsub, hS, (by omega), b6, c0, b9, a7, (evT (f1 2 rfl) e4), (evT (f1 3 rfl) g5), (evT (f1 4 rfl) g6), (evT (f1 5 rfl) g7), (evT (f1 6 rfl) g8), (evT (f1 7 rfl) e0), (evT (f1 8 rfl) e5), g9, h0, rfl⟩
 rintro am1 am2 ⟨a5, a9, am3, rfl, hsub, hS, b6, c0, b9, a7, p4, l0, p5, p6, l1, h8, e8, l2, n6⟩
 dsimp only [Ex.elim] at f2
 refine run_seq (run_region ?_)
 refine r_loadAll ty70 (by exact l2) (hS.get mL) rfl rfl ?_
 refine r_alloc (z := vA (enc8 .u8 (fun _ => 0))) (enc8 .u8 (fun _ => 0)).toArray ze70.zero rfl hS rfl ?_
 intro d6 am4 hS
 refine r_storeAll (v := vA (enc8 .u8 a5)) (vs := (enc8 .u8 a5).toArray) (cs := (enc8 .u8 (fun _ => 0)).toArray) ty70 rfl rfl rfl hS rfl (enc8_one .u8 a5) rfl ?_
 intro am5 hS
 refine reg_nil (run_seq (run_region (r_move (vI a4) (by exact e8) rfl (r_move (vI a4) (by exact e8) rfl ?_))))
 refine r_indexArP ar70 (by exact h8) rfl (by omega) (by omega) rfl ?_
 refine r_loadOne (Value.int .u8 (idx8 ((rd a1 a3).1) a4)) ty5 rfl (hS.get (o := cA (enc8 .u8 ((rd a1 a3).1)) 70) (mR (mR (mR mL)))) (box_ix ([]) ([]) (by omega) (by omega)) rfl ?_
 refine r_sub (IntKind.u8.wrap ((idx8 ((rd a1 a3).1) a4) - 1)) rfl rfl rfl rfl ?_
 refine r_indexArP ar70 rfl rfl (by omega) (by omega) rfl ?_
 refine r_store (v := Value.int .u8 (IntKind.u8.wrap ((idx8 ((rd a1 a3).1) a4) - 1))) (cs := (enc8 .u8 a5).toArray) (cs' := (enc8 .u8 (upd8 a5 a4 (IntKind.u8.wrap ((idx8 ((rd a1 a3).1) a4) - 1)))).toArray) ty5 rfl rfl hS rfl (oneL rfl) (by simp [enc8, encV]; omega) (enc8_set (by omega) (by omega)) ?_
 intro am6 hS
 refine reg_nil (run_seq ?_)
 obtain ⟨m4, m5, ac9, am7, _, v7, m6, ⟨_, _, rfl, rfl, rfl⟩, v8⟩ := b9.elem (i := a3) (by omega) (by omega)
 refine run_draw 12 (tabL [(63, MP.eq (vP b4)), (64, MP.eq (s2)), (65, MP.eq (vI a3)), (66, MP.eq (Value.pointer (some ⟨m4, m5, none⟩))), (67, MP.eq (Value.pointer (some ⟨m4, m5 + 8, none⟩))), (68, MP.eq (vI ((rd a1 a3).2))), (69, MP.eq (vI a4)), (70, MP.eq (Value.pointer (some ⟨c5, 0 + (a4).toNat * 1, none⟩))), (71, MP.eq (Value.int .u8 (idx8 ((rd a1 a3).1) a4))), (72, MP.eq (vI (IntKind.i64.wrap (idx8 ((rd a1 a3).1) a4)))), (73, MP.eq (vI (IntKind.i64.wrap ((rd a1 a3).2 * (IntKind.i64.wrap (idx8 ((rd a1 a3).1) a4)))))), (13, MP.eq (vI (IntKind.i64.wrap ((rd a1 a3).2 * (IntKind.i64.wrap (idx8 ((rd a1 a3).1) a4))))))]) [] mixed rfl rfl rfl hS (hop_q rfl ?_ (hop_q rfl ?_ (hop_q rfl ?_ (hop_q rfl ?_ (hop_q rfl ?_ (hop_q rfl ?_ (hop_q rfl ?_ (hop_q rfl ?_ (hop_q rfl ?_ (hop_q rfl ?_ (hop_q rfl ?_ (hop_q rfl ?_ hop_nil)))))))))))) ?_
 intro am8 am9 an0 an1 ad0 hS v9 ad1 hcq
 refine r_fieldAddr fld47_0 (evT (v9 3 rfl) l0) rfl ?_
 exact qn (.refl _) rfl hS rfl
 intro a40 an2 an3 an4 ad2 hS ad3 w0 hcq
 have a41 : ev a40 (.tmp 63) = vP b4 := w0 0 63 rfl rfl
 refine r_loadOne (s2) ty45 a41 (hS.get (mR (mR (mR (mR (mR (mR (mR mL)))))))) rfl rfl ?_
 exact qn (.refl _) rfl hS rfl
 intro an5 an6 an7 an8 ad4 hS w1 ad5 hcq
 refine r_move (vI a3) (evT (w1 6 rfl) l1) rfl ?_
 exact qn (.refl _) rfl hS rfl
 intro s6 an9 ao0 ao1 ad6 hS ad7 o6 hcq
 have a42 : ev s6 (.tmp 64) = s2 := o6 1 64 rfl rfl
 have a43 : ev s6 (.tmp 65) = vI a3 := o6 2 65 rfl rfl
 refine r_indexAt sl45 rfl a42 v7 a43 (by omega) (by omega) rfl ?_
 exact qn (.refl _) rfl hS rfl
 intro a44 ao2 ao3 ao4 ad8 hS ad9 w3 hcq
 have a45 : ev a44 (.tmp 66) = Value.pointer (some ⟨m4, m5, none⟩) := w3 3 66 rfl rfl
 refine r_fieldAddr fld76_1 a45 rfl ?_
 exact qn (.refl _) rfl hS rfl
 intro a46 ao5 ao6 ao7 w4 hS ae0 w6 hcq
 have m6 := w4.1 _ _ m6
 have a47 : ev a46 (.tmp 67) = Value.pointer (some ⟨m4, m5 + 8, none⟩) := w6 4 67 rfl rfl
 refine r_loadOne (vI ((rd a1 a3).2)) ty2 a47 (hS.froz _ _ m6) (v8 8 (show 8 < 9 by decide)) rfl ?_
 exact qn (.refl _) rfl hS rfl
 intro ao8 ao9 ap0 ap1 ae1 hS w7 ae2 hcq
 refine r_move (vI a4) (evT (w7 8 rfl) e8) rfl ?_
 exact qn (.refl _) rfl hS rfl
 intro a48 ap2 ap3 ap4 ae3 hS w9 x0 hcq
 have a49 : ev a48 (.tmp 69) = vI a4 := x0 6 69 rfl rfl
 refine r_indexArP ar70 (evT (w9 7 rfl) h8) a49 (by omega) (by omega) rfl ?_
 exact qn (.refl _) rfl hS rfl
 intro a50 ap5 ap6 ap7 ae4 hS ae5 x1 hcq
 have a51 : ev a50 (.tmp 70) = Value.pointer (some ⟨c5, 0 + (a4).toNat * 1, none⟩) := x1 7 70 rfl rfl
 refine r_loadOne (Value.int .u8 (idx8 ((rd a1 a3).1) a4)) ty5 a51 (hS.get (o := cA (enc8 .u8 ((rd a1 a3).1)) 70) (mR (mR (mR (mR mL))))) (box_ix ([]) ([]) (by omega) (by omega)) rfl ?_
 exact qn (.refl _) rfl hS rfl
 intro a52 ap8 ap9 aq0 ae6 hS ae7 x2 hcq
 have a53 : ev a52 (.tmp 71) = Value.int .u8 (idx8 ((rd a1 a3).1) a4) := x2 8 71 rfl rfl
 refine r_conv (s := .u8) ((IntKind.i64.wrap (idx8 ((rd a1 a3).1) a4))) co5_2 a53 rfl rfl ?_
 exact qn (.refl _) rfl hS rfl
 intro s7 aq1 aq2 aq3 ae8 hS ae9 o7 hcq
 have a54 : ev s7 (.tmp 68) = vI ((rd a1 a3).2) := o7 5 68 rfl rfl
 have a55 : ev s7 (.tmp 72) = vI (IntKind.i64.wrap (idx8 ((rd a1 a3).1) a4)) := o7 9 72 rfl rfl
 refine r_mul (IntKind.i64.wrap ((rd a1 a3).2 * (IntKind.i64.wrap (idx8 ((rd a1 a3).1) a4)))) a54 a55 rfl rfl ?_
 exact qn (.refl _) rfl hS rfl
 intro a56 aq4 aq5 aq6 af0 hS af1 x3 hcq
 have a57 : ev a56 (.tmp 73) = vI (IntKind.i64.wrap ((rd a1 a3).2 * (IntKind.i64.wrap (idx8 ((rd a1 a3).1) a4)))) := x3 10 73 rfl rfl
 refine r_assign (vI (IntKind.i64.wrap ((rd a1 a3).2 * (IntKind.i64.wrap (idx8 ((rd a1 a3).1) a4))))) a57 rfl ?_
 exact qn (.refl _) rfl hS rfl
 intro s8 a58 a59 f9 hS d5 x4 hcq
 have hS : St a59 a58 ([(d6, cA (enc8 .u8 (upd8 a5 a4 (IntKind.u8.wrap ((idx8 ((rd a1 a3).1) a4) - 1)))) 70)] ++ ([(c3, cA (enc8 .u8 a5) 70)] ++ ([(c6, cA (enc8 .u8 a9) 70)] ++ ([(c5, cA (enc8 .u8 ((rd a1 a3).1)) 70)] ++ ([(c2, cA ([a6]) 47)] ++ ([(b7, cA ([vN]) 47)] ++ ([(b4, cA ([s2]) 47)] ++ ([(b1, cA ([s0] ++ [s1]) 29)] ++ L)))))))) := hS
 have hsub := hsub.trans f9
 have b6 := b6.mono f9
 have c0 := c0.mono f9
 have b9 := b9.mono f9
 have a7 := a7.mono f9
 have n7 := evT (d5 2 rfl) p4
 have s9 := evT (d5 3 rfl) l0
 have t0 := evT (d5 4 rfl) p5
 have t1 := evT (d5 5 rfl) p6
 have t4 := evT (d5 6 rfl) l1
 have t5 := evT (d5 7 rfl) h8
 have t6 := evT (d5 8 rfl) e8
 have t7 := evT (d5 10 rfl) n6
 have t8 : ev s8 (.tmp 12) = vP d6 := Eq.trans (d5 12 rfl) rfl
 have t9 : ev s8 (.tmp 13) = vI (IntKind.i64.wrap ((rd a1 a3).2 * (IntKind.i64.wrap (idx8 ((rd a1 a3).1) a4)))) := x4 11 13 (by decide) rfl
 refine reg_nil (run_seq (run_seq (run_region (r_fieldAddr fld29_0 (by exact n7) rfl ?_))))
 refine r_loadOne (s0) ty22 rfl (hS.get (mR (mR (mR (mR (mR (mR (mR mL)))))))) rfl rfl ?_
 refine r_loadAll ty70 (by exact (evT (d5 9 rfl) l2)) (hS.get (mR mL)) rfl rfl ?_
 obtain ⟨j2, x5, f2⟩ := bind_some f2
 refine r_callFn Tryz.call216 (args2 rfl rfl) rfl (g_spec_l01Weight_ok x5 b6 hS) ?_
 rintro aq7 aq8 ⟨_, u0, rfl, g0, hS, rfl⟩
 refine ⟨_, rfl, ?_⟩
 have hsub := hsub.trans g0
 have b6 := b6.mono g0
 have c0 := c0.mono g0
 have b9 := b9.mono g0
 have a7 := a7.mono g0
 refine r_rem ((j2).tmod 2) rfl rfl (by decide) rfl rfl ?_
 refine r_neq (k := .i64) (a := ((j2).tmod 2)) (b := 0) rfl rfl rfl (reg_nil ?_)
 refine run_cut (fun f w => ∃ (c8 : Int) (H1 : FH), g_spec_l02D_j99 K (g_spec_l02D_l1 K a0 a1 a3 k) a0 a1 a3 a4 b0 a5 a9 c8 = some n3 ∧ Sub H H1 ∧ St H1 w ([(d6, cA (enc8 .u8 (upd8 a5 a4 (IntKind.u8.wrap ((idx8 ((rd a1 a3).1) a4) - 1)))) 70)] ++ ([(c3, cA (enc8 .u8 a5) 70)] ++ ([(c6, cA (enc8 .u8 a9) 70)] ++ ([(c5, cA (enc8 .u8 ((rd a1 a3).1)) 70)] ++ ([(c2, cA ([a6]) 47)] ++ ([(b7, cA ([vN]) 47)] ++ ([(b4, cA ([s2]) 47)] ++ ([(b1, cA ([s0] ++ [s1]) 29)] ++ L)))))))) ∧ RdSl (tyInt .i64) H1 s0 a0.1 ∧ RdSl (tySl yT) H1 s1 a0.2 ∧ RdSl yT H1 s2 a1 ∧ RdSl yT H1 a6 b0 ∧ ev f (.tmp 2) = vP b1 ∧ ev f (.tmp 3) = vP b4 ∧ ev f (.tmp 4) = vP b7 ∧ ev f (.tmp 5) = vP c2 ∧ ev f (.tmp 6) = vI a3 ∧ ev f (.tmp 7) = vP c5 ∧ ev f (.tmp 8) = vI a4 ∧ ev f (.tmp 10) = vP c6 ∧ ev f (.tmp 12) = vP d6 ∧ ev f (.tmp 13) = vI c8) ?_ ?_
 rintro aq9 ac4 ⟨c8, ac5, c4, hsub, hS, b6, c0, b9, a7, h9, p7, p8, p9, q1, q2, l3, n8, n9, o0⟩
 unfold g_spec_l02D_j99 at c4
 refine run_seq ?_
 obtain ⟨l6, x6, c4⟩ := bind_some c4
 obtain ⟨af2, c4⟩ := gd c4
 obtain ⟨u1, u2, af3, ar0, _, x7, m7, ⟨j6, rfl, i0⟩, x8⟩ := c0.elem (i := a4) (by omega) (by omega)
 obtain ⟨j0, x9, c4⟩ := bind_some c4
 refine run_draw 12 (tabL [(82, MP.eq (vP b1)), (83, MP.eq (s0)), (84, MP.eq (vA (enc8 .u8 (upd8 a5 a4 (IntKind.u8.wrap ((idx8 ((rd a1 a3).1) a4) - 1)))))), (85, MP.rep (R.agg (tySl yT)) (l6)), (86, MP.eq (Value.pointer (some ⟨b1, 1, none⟩))), (87, MP.eq (s1)), (88, MP.eq (vI a4)), (89, MP.eq (Value.pointer (some ⟨u1, u2, none⟩))), (90, MP.eq (vA ([j6]))), (91, MP.rep (R.agg (tySl yT)) (j0)), (14, MP.box (cA ([vN]) 47))]) [Co.st 10 14 11 9 91 (objA 47)] mixed rfl (conOk_num (ns := [(10, 14, 11, 9, 91)]) rfl rfl) rfl hS (hop_q rfl ?_ (hop_q rfl ?_ (hop_q rfl ?_ (hop_q rfl ?_ (hop_q rfl ?_ (hop_q rfl ?_ (hop_q rfl ?_ (hop_q rfl ?_ (hop_q rfl ?_ (hop_q rfl ?_ (hop_q rfl ?_ (hop_s rfl ?_ hop_nil)))))))))))) ?_
 intro ar1 ar2 ar3 ar4 af4 hS y0 af5 hcq
 refine r_fieldAddr fld29_0 (evT (y0 2 rfl) h9) rfl ?_
 exact qn (.refl _) rfl hS rfl
 intro a60 ar5 ar6 ar7 af6 hS af7 y1 hcq
 have a61 : ev a60 (.tmp 82) = vP b1 := y1 0 82 rfl rfl
 refine r_loadOne (s0) ty22 a61 (hS.get (mR (mR (mR (mR (mR (mR (mR (mR mL))))))))) rfl rfl ?_
 exact qn (.refl _) rfl hS rfl
 intro ar8 ar9 as0 as1 af8 hS y2 af9 hcq
 refine r_loadAll ty70 (evT (y2 12 rfl) n9) (hS.get (mR mL)) rfl rfl ?_
 exact qn (.refl _) rfl hS rfl
 intro a62 as2 as3 as4 ag0 hS ag1 y3 hcq
 have a63 : ev a62 (.tmp 84) = vA (enc8 .u8 (upd8 a5 a4 (IntKind.u8.wrap ((idx8 ((rd a1 a3).1) a4) - 1)))) := y3 2 84 rfl rfl
 refine r_callFn Tryz.call170 (args2 a63 rfl) rfl (g_spec_l01Single_ok x6  hS) ?_
 rintro as5 as6 ⟨a64, as7, rfl, y4, hS, y5⟩
 refine ⟨a64, rfl, ?_⟩
 exact qn y4 rfl hS y5
 intro as8 as9 at0 at1 ag2 hS y6 ag3 hcq
 refine r_fieldAddr fld29_1 (evT (y6 2 rfl) h9) rfl ?_
 exact qn (.refl _) rfl hS rfl
 intro a65 at2 at3 at4 ag4 hS ag5 y7 hcq
 have a66 : ev a65 (.tmp 86) = Value.pointer (some ⟨b1, 1, none⟩) := y7 4 86 rfl rfl
 refine r_loadOne (s1) ty27 a66 (hS.get (mR (mR (mR (mR (mR (mR (mR (mR mL))))))))) rfl rfl ?_
 exact qn (.refl _) rfl hS rfl
 intro at5 at6 at7 at8 ag6 hS y8 ag7 hcq
 refine r_move (vI a4) (evT (y8 8 rfl) l3) rfl ?_
 exact qn (.refl _) rfl hS rfl
 intro u3 at9 au0 au1 ag8 hS ag9 o8 hcq
 have a67 : ev u3 (.tmp 87) = s1 := o8 5 87 rfl rfl
 have a68 : ev u3 (.tmp 88) = vI a4 := o8 6 88 rfl rfl
 refine r_indexAt sl27 rfl a67 x7 a68 (by omega) (by omega) rfl ?_
 exact qn (.refl _) rfl hS rfl
 intro a69 au2 au3 au4 y9 hS ah0 z0 hcq
 have m7 := y9.1 _ _ m7
 have a70 : ev a69 (.tmp 89) = Value.pointer (some ⟨u1, u2, none⟩) := z0 7 89 rfl rfl
 refine r_loadAgg ([j6]) ty47 a70 (hS.froz _ _ m7) rfl x8 rfl ?_
 exact qn (.refl _) rfl hS rfl
 intro o1 au5 a71 au6 o9 hS ah1 m8 hcq
 have b6 := b6.mono o9
 have i0 := i0.mono o9
 have a72 : ev o1 (.tmp 83) = s0 := m8 1 83 rfl rfl
 obtain ⟨a73, u4⟩ : ∃ v, ev o1 (.tmp 85) = v := ⟨_, rfl⟩
 have z1 : (R.agg (tySl yT)).p a71 a73 (l6) := u4 ▸ (m8 3 85 rfl rfl)
 obtain ⟨_, rfl, ⟨ac6, rfl, q3⟩⟩ := z1
 have a74 : ev o1 (.tmp 90) = vA ([j6]) := m8 8 90 rfl rfl
 refine r_callFn Tryz.call171 (args3 a72 u4 a74) rfl (g_spec_l01Times_ok x9 b6 q3 i0 hS) ?_
 rintro au7 au8 ⟨a75, au9, rfl, z2, hS, z3⟩
 refine ⟨a75, rfl, ?_⟩
 exact qn z2 rfl hS z3
 intro av0 av1 av2 av3 ah2 hS ah3 ah4 hcq
 refine r_alloc (z := vA ([vN])) ([vN]).toArray ze47.zero rfl hS rfl ?_
 intro av4 av5 hS
 exact qn (.refl _) rfl hS ⟨_, rfl⟩
 intro f5 a76 o2 a77 ah5 hS ah6 p0 hcq
 have hsub := Sub.refl o2
 obtain ⟨u5, j7⟩ := p0 10 14 rfl rfl
 have j7 : f5 14 = vP u5 := j7
 have hS : St o2 a76 (ptrRes (cA ([vN]) 47) (f5 14) ++ (a77 ++ ([(d6, cA (enc8 .u8 (upd8 a5 a4 (IntKind.u8.wrap ((idx8 ((rd a1 a3).1) a4) - 1)))) 70)] ++ ([(c3, cA (enc8 .u8 a5) 70)] ++ ([(c6, cA (enc8 .u8 a9) 70)] ++ ([(c5, cA (enc8 .u8 ((rd a1 a3).1)) 70)] ++ ([(c2, cA ([a6]) 47)] ++ ([(b7, cA ([vN]) 47)] ++ ([(b4, cA ([s2]) 47)] ++ ([(b1, cA ([s0] ++ [s1]) 29)] ++ L)))))))))) := hS
 rw [j7] at hS
 have a78 : ev f5 (.tmp 14) = vP u5 := j7
 obtain ⟨a79, o3⟩ : ∃ v, ev f5 (.tmp 91) = v := ⟨_, rfl⟩
 have z4 : (R.agg (tySl yT)).p o2 a79 (j0) := o3 ▸ (p0 9 91 rfl rfl)
 obtain ⟨_, rfl, ⟨j8, rfl, q4⟩⟩ := z4
 refine r_storeAll (v := vA ([j8])) (vs := ([j8]).toArray) (cs := ([vN]).toArray) ty47 a78 o3 rfl hS rfl (one1 q4.isOne) rfl ?_
 intro av6 hS
 have a80 : f5 91 = vA ([j8]) := o3
 exact reg_nil ⟨_, rfl, rfl, hsub, by show St _ _ (ptrRes (objA 47 (f5 91)) (f5 14) ++ _); rw [j7, a80]; exact hS, trivial⟩
 intro i1 a81 u6 g1 hS d7 p1 hcq
 have hS : St u6 a81 ((ptrRes (objA 47 (i1 91)) (i1 14) ++ ([])) ++ ([(d6, cA (enc8 .u8 (upd8 a5 a4 (IntKind.u8.wrap ((idx8 ((rd a1 a3).1) a4) - 1)))) 70)] ++ ([(c3, cA (enc8 .u8 a5) 70)] ++ ([(c6, cA (enc8 .u8 a9) 70)] ++ ([(c5, cA (enc8 .u8 ((rd a1 a3).1)) 70)] ++ ([(c2, cA ([a6]) 47)] ++ ([(b7, cA ([vN]) 47)] ++ ([(b4, cA ([s2]) 47)] ++ ([(b1, cA ([s0] ++ [s1]) 29)] ++ L))))))))) := hS
 have hsub := hsub.trans g1
 have a7 := a7.mono g1
 have b9 := b9.mono g1
 have b6 := b6.mono g1
 have c0 := c0.mono g1
 have u7 := evT (d7 2 rfl) h9
 have u8 := evT (d7 5 rfl) p9
 obtain ⟨a82, u9⟩ : ∃ v, ev i1 (.tmp 91) = v := ⟨_, rfl⟩
 have z5 : (R.agg (tySl yT)).p u6 a82 (j0) := u9 ▸ (p1 9 91 (by decide) rfl)
 obtain ⟨_, rfl, ⟨d2, rfl, i2⟩⟩ := z5
 obtain ⟨f6, i3⟩ := p1 10 14 (by decide) rfl
 have i3 : i1 14 = vP f6 := i3
 rw [i3] at hS
 have i3 : ev i1 (.tmp 14) = _ := i3
 have a83 : i1 91 = vA ([d2]) := u9
 rw [a83] at hS
 refine reg_nil ?_
 obtain ⟨l7, z6, c4⟩ := bind_some c4
 obtain ⟨l9, z7, c4⟩ := bind_some c4
 obtain ⟨m0, z8, c4⟩ := bind_some c4
 obtain ⟨j1, z9, c4⟩ := bind_some c4
 refine run_draw 10 (tabL [(92, MP.eq (vA ([a6]))), (93, MP.eq (vP b1)), (94, MP.eq (s0)), (95, MP.eq (vA ([d2]))), (96, MP.eq (vA (enc8 .u8 a9))), (97, MP.rep (R.agg (tySl yT)) (l7)), (98, MP.rep (R.agg (tySl yT)) (l9)), (99, MP.eq (vI c8)), (100, MP.eq (vI m0)), (101, MP.rep (R.agg (tySl yT)) (j1))]) [] mixed rfl rfl rfl hS (hop_q rfl ?_ (hop_q rfl ?_ (hop_q rfl ?_ (hop_q rfl ?_ (hop_q rfl ?_ (hop_q rfl ?_ (hop_q rfl ?_ (hop_q rfl ?_ (hop_q rfl ?_ (hop_q rfl ?_ hop_nil)))))))))) ?_
 intro av7 av8 av9 aw0 ah7 hS a00 ah8 hcq
 refine r_loadAll ty47 (evT (a00 5 rfl) u8) (hS.get (mR (mR (mR (mR (mR (mR mL))))))) rfl rfl ?_
 exact qn (.refl _) rfl hS rfl
 intro aw1 aw2 aw3 aw4 ah9 hS a01 ai0 hcq
 refine r_fieldAddr fld29_0 (evT (a01 2 rfl) u7) rfl ?_
 exact qn (.refl _) rfl hS rfl
 intro a84 aw5 aw6 aw7 ai1 hS ai2 a02 hcq
 have a85 : ev a84 (.tmp 93) = vP b1 := a02 1 93 rfl rfl
 refine r_loadOne (s0) ty22 a85 (hS.get (mR (mR (mR (mR (mR (mR (mR (mR (mR mL)))))))))) rfl rfl ?_
 exact qn (.refl _) rfl hS rfl
 intro aw8 aw9 ax0 ax1 ai3 hS a03 ai4 hcq
 refine r_loadAll ty47 (evT (a03 14 rfl) i3) (hS.get (mR mL)) rfl rfl ?_
 exact qn (.refl _) rfl hS rfl
 intro ax2 ax3 ax4 ax5 ai5 hS a04 ai6 hcq
 refine r_loadAll ty70 (evT (a04 10 rfl) (evT (d7 10 rfl) n8)) (hS.get (mR (mR (mR (mR mL))))) rfl rfl ?_
 exact qn (.refl _) rfl hS rfl
 intro a86 ax6 ax7 ax8 ai7 hS ai8 a05 hcq
 have a87 : ev a86 (.tmp 96) = vA (enc8 .u8 a9) := a05 4 96 rfl rfl
 refine r_callFn Tryz.call170 (args2 a87 rfl) rfl (g_spec_l01Single_ok z6  hS) ?_
 rintro ax9 ay0 ⟨a88, ay1, rfl, a06, hS, a07⟩
 refine ⟨a88, rfl, ?_⟩
 exact qn a06 rfl hS a07
 intro o4 ay2 a89 ay3 p2 hS ai9 m9 hcq
 have b6 := b6.mono p2
 have i2 := i2.mono p2
 have a90 : ev o4 (.tmp 94) = s0 := m9 2 94 rfl rfl
 have a91 : ev o4 (.tmp 95) = vA ([d2]) := m9 3 95 rfl rfl
 obtain ⟨a92, v0⟩ : ∃ v, ev o4 (.tmp 97) = v := ⟨_, rfl⟩
 have a08 : (R.agg (tySl yT)).p a89 a92 (l7) := v0 ▸ (m9 5 97 rfl rfl)
 obtain ⟨_, rfl, ⟨ac7, rfl, q5⟩⟩ := a08
 refine r_callFn Tryz.call171 (args3 a90 a91 v0) rfl (g_spec_l01Times_ok z7 b6 i2 q5 hS) ?_
 rintro ay4 ay5 ⟨a93, ay6, rfl, a09, hS, a10⟩
 refine ⟨a93, rfl, ?_⟩
 exact qn a09 rfl hS a10
 intro ay7 ay8 ay9 az0 aj0 hS a11 aj1 hcq
 refine r_move (vI c8) (evT (a11 13 rfl) (evT (d7 13 rfl) o0)) rfl ?_
 exact qn (.refl _) rfl hS rfl
 intro a94 az1 az2 az3 aj2 hS aj3 a12 hcq
 have a95 : ev a94 (.tmp 99) = vI c8 := a12 7 99 rfl rfl
 refine r_callFn Tryz.call217 (args1 a95) rfl (g_spec_l01Mod_ok z8  hS) ?_
 rintro az4 az5 ⟨_, az6, rfl, a13, hS, rfl⟩
 refine ⟨_, rfl, ?_⟩
 exact qn a13 rfl hS rfl
 intro o5 az7 a96 az8 a14 hS aj4 n0 hcq
 have a7 := a7.mono a14
 have a97 : ev o5 (.tmp 92) = vA ([a6]) := n0 0 92 rfl rfl
 obtain ⟨a98, v1⟩ : ∃ v, ev o5 (.tmp 98) = v := ⟨_, rfl⟩
 have a15 : (R.agg (tySl yT)).p a96 a98 (l9) := v1 ▸ (n0 6 98 rfl rfl)
 obtain ⟨_, rfl, ⟨ac8, rfl, q6⟩⟩ := a15
 have a99 : ev o5 (.tmp 100) = vI m0 := n0 8 100 rfl rfl
 refine r_callFn Tryz.call143 (args3 a97 v1 a99) rfl (g_spec_l01Add_ok z9 a7 q6 hS) ?_
 rintro az9 b00 ⟨aa0, b01, rfl, a16, hS, a17⟩
 refine ⟨aa0, rfl, ?_⟩
 exact qn a16 rfl hS a17
 intro aa1 v2 j9 i8 hS e2 a18 hcq
 have hS : St j9 v2 ([(f6, cA ([d2]) 47)] ++ ([(d6, cA (enc8 .u8 (upd8 a5 a4 (IntKind.u8.wrap ((idx8 ((rd a1 a3).1) a4) - 1)))) 70)] ++ ([(c3, cA (enc8 .u8 a5) 70)] ++ ([(c6, cA (enc8 .u8 a9) 70)] ++ ([(c5, cA (enc8 .u8 ((rd a1 a3).1)) 70)] ++ ([(c2, cA ([a6]) 47)] ++ ([(b7, cA ([vN]) 47)] ++ ([(b4, cA ([s2]) 47)] ++ ([(b1, cA ([s0] ++ [s1]) 29)] ++ L))))))))) := hS
 have hsub := hsub.trans i8
 have b9 := b9.mono i8
 have b6 := b6.mono i8
 have c0 := c0.mono i8
 have v3 := evT (e2 5 rfl) u8
 obtain ⟨aa2, v4⟩ : ∃ v, ev aa1 (.tmp 101) = v := ⟨_, rfl⟩
 have a19 : (R.agg (tySl yT)).p j9 aa2 (j1) := v4 ▸ (a18 9 101 (by decide) rfl)
 obtain ⟨_, rfl, ⟨g2, rfl, l4⟩⟩ := a19
 have hS : St j9 v2 ([(c2, cA ([a6]) 47)] ++ ([(f6, cA ([d2]) 47)] ++ ([(d6, cA (enc8 .u8 (upd8 a5 a4 (IntKind.u8.wrap ((idx8 ((rd a1 a3).1) a4) - 1)))) 70)] ++ ([(c3, cA (enc8 .u8 a5) 70)] ++ ([(c6, cA (enc8 .u8 a9) 70)] ++ ([(c5, cA (enc8 .u8 ((rd a1 a3).1)) 70)] ++ ([(b7, cA ([vN]) 47)] ++ ([(b4, cA ([s2]) 47)] ++ ([(b1, cA ([s0] ++ [s1]) 29)] ++ L))))))))) := hS.perm (perm5 (A1 := [(f6, cA ([d2]) 47)]) (A2 := [(d6, cA (enc8 .u8 (upd8 a5 a4 (IntKind.u8.wrap ((idx8 ((rd a1 a3).1) a4) - 1)))) 70)]) (A3 := [(c3, cA (enc8 .u8 a5) 70)]) (A4 := [(c6, cA (enc8 .u8 a9) 70)]) (A5 := [(c5, cA (enc8 .u8 ((rd a1 a3).1)) 70)]))
 refine r_storeAll (v := vA ([g2])) (vs := ([g2]).toArray) (cs := ([a6]).toArray) ty47 (by exact v3) (by exact v4) rfl hS rfl (one1 l4.isOne) rfl ?_
 intro aa3 hS
 have hS : St j9 aa3 ([(f6, cA ([d2]) 47)] ++ ([(d6, cA (enc8 .u8 (upd8 a5 a4 (IntKind.u8.wrap ((idx8 ((rd a1 a3).1) a4) - 1)))) 70)] ++ ([(c3, cA (enc8 .u8 a5) 70)] ++ ([(c6, cA (enc8 .u8 a9) 70)] ++ ([(c5, cA (enc8 .u8 ((rd a1 a3).1)) 70)] ++ ([(c2, cA ([g2]) 47)] ++ ([(b7, cA ([vN]) 47)] ++ ([(b4, cA ([s2]) 47)] ++ ([(b1, cA ([s0] ++ [s1]) 29)] ++ L))))))))) := hS.perm (perm5 (A1 := [(f6, cA ([d2]) 47)]) (A2 := [(d6, cA (enc8 .u8 (upd8 a5 a4 (IntKind.u8.wrap ((idx8 ((rd a1 a3).1) a4) - 1)))) 70)]) (A3 := [(c3, cA (enc8 .u8 a5) 70)]) (A4 := [(c6, cA (enc8 .u8 a9) 70)]) (A5 := [(c5, cA (enc8 .u8 ((rd a1 a3).1)) 70)])).symm
 refine reg_nil (run_inBlock (run_region (r_move (vI a4) (by exact (evT (e2 8 rfl) (evT (d7 8 rfl) l3))) rfl ?_)))
 refine r_add (a4 + 1) rfl rfl (IntWalk.i64_in _ (by omega)) rfl (r_assign (vI (a4 + 1)) rfl rfl (reg_nil ?_))
 have hS := St.dropA (A := [(f6, cA ([d2]) 47)]) hS
 have hS := St.dropA (A := [(d6, cA (enc8 .u8 (upd8 a5 a4 (IntKind.u8.wrap ((idx8 ((rd a1 a3).1) a4) - 1)))) 70)]) hS
 have hS := St.dropA (A := [(c3, cA (enc8 .u8 a5) 70)]) hS
 have hS := St.dropA (A := [(c6, cA (enc8 .u8 a9) 70)]) hS
 exact ih1 _ _ ⟨(a4 + 1), j1, j9, g2, c4, hsub, hS, (by omega), l4, b6, c0, b9, (evT (e2 2 rfl) u7), (evT (e2 3 rfl) (evT (d7 3 rfl) p7)), (evT (e2 4 rfl) (evT (d7 4 rfl) p8)), v3, (evT (e2 6 rfl) (evT (d7 6 rfl) q1)), (evT (e2 7 rfl) (evT (d7 7 rfl) q2)), rfl⟩
 intro v5
 by_cases i9 : ((j2).tmod 2) = 0
 rw [if_pos i9] at f2
 refine run_cond_false (Eq.trans rfl (congrArg (fun b => Value.bool (!b)) (decide_eq_true i9))) (run_skip ?_)
 exact v5 _ _ ⟨(IntKind.i64.wrap ((rd a1 a3).2 * (IntKind.i64.wrap (idx8 ((rd a1 a3).1) a4)))), u0, f2, hsub, hS, b6, c0, b9, a7, n7, s9, t0, t1, t4, t5, t6, t7, t8, t9⟩
 rw [if_neg i9] at f2
 refine run_cond_true (Eq.trans rfl (congrArg (fun b => Value.bool (!b)) (decide_eq_false i9))) (run_region (r_move (vI (IntKind.i64.wrap ((rd a1 a3).2 * (IntKind.i64.wrap (idx8 ((rd a1 a3).1) a4))))) (by exact t9) rfl ?_))
 refine r_neg (IntKind.i64.wrap (0 - (IntKind.i64.wrap ((rd a1 a3).2 * (IntKind.i64.wrap (idx8 ((rd a1 a3).1) a4)))))) rfl rfl rfl (r_assign (vI (IntKind.i64.wrap (0 - (IntKind.i64.wrap ((rd a1 a3).2 * (IntKind.i64.wrap (idx8 ((rd a1 a3).1) a4))))))) rfl rfl (reg_nil ?_))
 exact v5 _ _ ⟨(IntKind.i64.wrap (0 - (IntKind.i64.wrap ((rd a1 a3).2 * (IntKind.i64.wrap (idx8 ((rd a1 a3).1) a4)))))), u0, f2, hsub, hS, b6, c0, b9, a7, n7, s9, t0, t1, t4, t5, t6, t7, t8, rfl⟩
 rw [if_neg m2] at d0
 refine run_cond_false (Eq.trans rfl (congrArg Value.bool (decide_eq_false m2))) ?_
 refine run_exit rfl ?_
 have hz := Option.some.inj d0
 subst hz
 exact hx1 _ _ ⟨b0, r8, a6, rfl, hsub, hS, a7, b6, c0, b9, e4, g5, g6, g7, g8⟩
 exact ⟨0, c1, r6, c7, d0, hsub, hS, (by omega), e9, b6, c0, b9, p3, g3, k1, k2, g4, rfl, rfl⟩
 rintro b02 b03 ⟨c9, aa4, d4, rfl, hsub, hS, k0, b6, c0, b9, q7, q8, q9, r0, r1⟩
 dsimp only [Ex.elim] at r7
 refine run_inBlock (run_region (r_move (vI a3) (by exact r1) rfl ?_))
 refine r_add (a3 + 1) rfl rfl (IntWalk.i64_in _ (by omega)) rfl (r_assign (vI (a3 + 1)) rfl rfl (reg_nil ?_))
 have hS := St.dropA (A := [(c5, cA (enc8 .u8 ((rd a1 a3).1)) 70)]) hS
 exact ih0 _ _ ⟨(a3 + 1), c9, aa4, d4, r7, hsub, hS, (by omega), k0, b6, c0, b9, q7, q8, q9, r0, rfl⟩
 rw [if_neg m1] at d9
 refine run_cond_false (Eq.trans rfl (congrArg Value.bool (decide_eq_false m1))) ?_
 refine run_exit rfl ?_
 have hz := Option.some.inj d9
 subst hz
 exact hx0 _ _ ⟨c1, r6, c7, rfl, hsub, hS, e9, b6, c0, b9, k1, k2⟩
 exact ⟨0, ([] : List (A8 × Int)), H, (vN), d9, hsub, hS, (by omega), r3, b6, c0, b9, rfl, rfl, rfl, rfl, rfl⟩
 rintro b04 aa5 ⟨d1, v6, b5, rfl, hsub, hS, f0, b6, c0, b9, l5, r2⟩
 dsimp only [Ex.elim] at r5
 refine run_seq (run_region ?_)
 refine r_loadAll ty47 (by exact r2) (hS.get mL) rfl rfl ?_
 have hS : St v6 aa5 ([(b7, cA ([vN]) 47)] ++ ([(c2, cA ([b5]) 47)] ++ ([(b4, cA ([s2]) 47)] ++ ([(b1, cA ([s0] ++ [s1]) 29)] ++ L)))) := hS.perm (perm1 (A1 := [(c2, cA ([b5]) 47)]))
 refine r_storeAll (v := vA ([b5])) (vs := ([b5]).toArray) (cs := ([vN]).toArray) ty47 (by exact l5) rfl rfl hS rfl (one1 f0.isOne) rfl ?_
 intro aa6 hS
 have hS : St v6 aa6 ([(c2, cA ([b5]) 47)] ++ ([(b7, cA ([b5]) 47)] ++ ([(b4, cA ([s2]) 47)] ++ ([(b1, cA ([s0] ++ [s1]) 29)] ++ L)))) := hS.perm (perm1 (A1 := [(c2, cA ([b5]) 47)])).symm
 refine reg_nil ?_
 refine run_ret (vs := [vA ([b5])]) Tryz.func123 ⟨⟨_, (by exact l5), run_loadAll ty47 (hS.get (mR mL)) rfl⟩, trivial⟩ ?_
 have hz := Option.some.inj r5
 subst hz
 exact ⟨_, _, rfl, hsub, (St.dropA (A := [(b1, cA ([s0] ++ [s1]) 29)]) (St.dropA (A := [(b4, cA ([s2]) 47)]) (St.dropA (A := [(b7, cA ([b5]) 47)]) (St.dropA (A := [(c2, cA ([b5]) 47)]) hS)))), ⟨_, rfl, ⟨_, rfl, f0⟩⟩⟩
def g_impl_sum_addAll_l0 (K : Nat) (a2 : Int) : Nat → MpT → MpT → Option (Ex MpT (MpT))
 | 0, _, _ => none
 | k + 1, [], a3 => some (.go a3)
 | k + 1, z7 :: c0, a3 => ((g_impl_sum_add K a3 z7.1 (((IntKind.i64.wrap (z7.2 * a2))).tmod 10007)).bind fun c1 => g_impl_sum_addAll_l0 K a2 k c0 c1)
theorem g_impl_sum_addAll_l0_perm {K : Nat} {a2 : Int} {a3 : MpT} {k : Nat} {zp zq : MpT} {o : Ex MpT (MpT)} (hp : zp.Perm zq) (q : g_impl_sum_addAll_l0 K a2 k zp a3 = some o) : g_impl_sum_addAll_l0 K a2 k zq a3 = some o := by
 exact (perm_loop (K := K) (fun k zs s => g_impl_sum_addAll_l0 K a2 k zs s) (by intros; rw [g_impl_sum_addAll_l0])
  (fun z => ⟨fun s => g_impl_sum_add K s z.1 (((IntKind.i64.wrap (z.2 * a2))).tmod 10007), .add _ _, by intros; rw [g_impl_sum_addAll_l0]⟩) hp k a3).symm.trans q
def g_impl_sum_addAll (K : Nat) (a0 : MpT) (a1 : MpT) (a2 : Int) : Option MpT := ((g_impl_sum_addAll_l0 K a2 K a1 a0).bind (Ex.elim (fun r => some r) (fun s => (fun (a9 : MpT) => some a9) s)))
theorem g_impl_sum_addAll_ok {K : Nat} {a0 : MpT} {a1 : MpT} {a2 : Int} {r : MpT} (q0 : g_impl_sum_addAll K a0 a1 a2 = some r) {H : FH} {w : World} {L C0 : OL} {s0 : Value} {s1 : Value} (d5 : OwnMp .i64 s0 a0 C0) (d6 : RdMp .i64 H s1 a1) (hS : St H w (C0 ++ L)) :
 Calls Tryz.prog 132 #[s0, s1, vI a2] w (DoneP .i64 s0 r H L) := by
 have hsub := Sub.refl H
 refine calls_of_run Tryz.func132 rfl Tryz.ntmps132 rfl ?_
 unfold g_impl_sum_addAll at q0
 refine run_seq (run_region (r_move (s1) rfl rfl ?_))
 refine r_range mp109 rfl d6 hS rfl ?_
 intro c2 w2 C3 d7 hS
 refine reg_nil (run_block ?_)
 obtain ⟨c3, a4, c4⟩ := bind_some q0
 refine loop_ind (id := 0) (fun k f w => ∃ (b0 : MpT) (a3 : MpT) (H1 : FH) (a7 : OL) (a5 : OL), g_impl_sum_addAll_l0 K a2 k b0 a3 = some c3 ∧ Sub H H1 ∧ St H1 w (a7 ++ (a5 ++ L)) ∧ ItMp .i64 H1 c2 b0 none a7 ∧ OwnMp .i64 s0 a3 a5 ∧ ev f (.tmp 0) = s0 ∧ ev f (.tmp 2) = vI a2 ∧ ev f (.tmp 9) = c2) (fun f w => ∃ (a9 : MpT) (H1 : FH) (a6 : OL) (a8 : OL), c3 = .go a9 ∧ Sub H H1 ∧ St H1 w (a6 ++ (a8 ++ L)) ∧ ItMp .i64 H1 c2 ([] : MpT) none a6 ∧ OwnMp .i64 s0 a9 a8) rfl ?_ ?_ K ?_ ?_
 rintro f w ⟨b0, a3, H1, a7, a5, a4, _⟩
 rw [g_impl_sum_addAll_l0] at a4; cases a4
 rintro k e3 e4 d8 d9 ⟨b0, a3, c5, a7, a5, a4, hsub, hS, b2, b3, b4, b5, b1⟩
 refine run_seq (run_region ?_)
 refine r_next (by exact b1) b2 hS rfl ?_ ?_
 intro e0; subst e0
 rw [g_impl_sum_addAll_l0] at a4
 refine r_extract (Value.bool false) rfl rfl rfl (reg_nil (run_seq (run_cond_false rfl ?_)))
 refine run_exit rfl ?_
 have hz := Option.some.inj a4
 subst hz
 exact d9 _ _ ⟨a3, c5, a7, a5, rfl, hsub, hS, b2, b3⟩
 intro z7 c0 w9 b7 d0 b6 hS
 replace a4 := g_impl_sum_addAll_l0_perm d0 a4
 rw [g_impl_sum_addAll_l0] at a4
 refine r_extract (Value.bool true) rfl rfl rfl (reg_nil (run_seq (run_cond_true rfl (run_skip (run_block (run_seq (run_region ?_)))))))
 refine r_entry (by exact b1) b6 hS rfl (r_extract (vA (enc8 .i64 z7.1)) rfl rfl rfl (r_extract (vI z7.2) rfl rfl rfl ?_))
 refine r_alloc (z := vA (enc8 .i64 (fun _ => 0))) (enc8 .i64 (fun _ => 0)).toArray ze188.zero rfl hS rfl ?_
 intro b8 e6 hS
 refine r_storeAll (v := vA (enc8 .i64 z7.1)) (vs := (enc8 .i64 z7.1).toArray) (cs := (enc8 .i64 (fun _ => 0)).toArray) ty188 rfl rfl rfl hS rfl (enc8_one .i64 z7.1) rfl ?_
 intro e1 hS
 refine r_assign (vI z7.2) rfl rfl (reg_nil (run_region (r_move (s0) (by exact b4) rfl ?_)))
 refine r_loadAll ty188 rfl (hS.get mL) rfl rfl (r_move (vI z7.2) rfl rfl (r_move (vI a2) (by exact b5) rfl ?_))
 refine r_mul (IntKind.i64.wrap (z7.2 * a2)) rfl rfl rfl rfl ?_
 refine r_rem (((IntKind.i64.wrap (z7.2 * a2))).tmod 10007) rfl rfl (by decide) rfl rfl ?_
 obtain ⟨c1, d1, a4⟩ := bind_some a4
 have hS : St c5 e1 (a5 ++ ([(b8, cA (enc8 .i64 z7.1) 188)] ++ (b7 ++ L))) := hS.perm (perm2 (A1 := [(b8, cA (enc8 .i64 z7.1) 188)]) (A2 := b7))
 refine r_callFn Tryz.call225 (args3 rfl rfl rfl) rfl (g_impl_sum_add_ok d1 b3 hS) ?_
 rintro e7 e2 ⟨c7, c8, rfl, c6, hS, d2⟩
 refine ⟨_, rfl, ?_⟩
 have hsub := hsub.trans c6
 have b6 := b6.mono c6
 have hS : St c7 e2 ([(b8, cA (enc8 .i64 z7.1) 188)] ++ (b7 ++ (c8 ++ L))) := hS.perm (perm2 (A1 := [(b8, cA (enc8 .i64 z7.1) 188)]) (A2 := b7)).symm
 refine reg_nil (run_inBlock ?_)
 have hS := St.dropA (A := [(b8, cA (enc8 .i64 z7.1) 188)]) hS
 exact d8 _ _ ⟨c0, c1, c7, b7, c8, a4, hsub, hS, b6.drop, d2, b4, b5, b1⟩
 exact ⟨a1, a0, H, C3, C0, a4, hsub, hS, d7, d5, rfl, rfl, rfl⟩
 rintro e5 d3 ⟨a9, d4, a6, a8, rfl, hsub, hS, c9, b9⟩
 dsimp only [Ex.elim] at c4
 refine run_end (vs := []) Tryz.func132 trivial ?_
 have hS : St d4 d3 (a8 ++ (a6 ++ L)) := hS.perm (perm1 (A1 := a6))
 have hS := St.dropMid (A := a8) (B := a6) hS
 have hz := Option.some.inj c4
 subst hz
 exact ⟨_, _, rfl, hsub, hS, b9⟩
def g_laws_szAlgebra (K : Nat) (a0 : ((List Int) × (List MpT))) (a1 : Int) : Option Int := ((g_laws_szInt64S K a0.1 a1).bind fun r4 => (if r4 < 0 then some (-1) else ((g_laws_szFormS K a0.2 r4).bind fun r7 => (if r7 < 0 then some (-1) else some r7))))
theorem g_laws_szAlgebra_ok {K : Nat} {a0 : ((List Int) × (List MpT))} {a1 : Int} {r : Int} (q0 : g_laws_szAlgebra K a0 a1 = some r) {H : FH} {w : World} {L : OL} {s0 : Value} {s1 : Value} (a7 : RdSl (tyInt .i64) H s0 a0.1) (a5 : RdSl (tySl yT) H s1 a0.2) (hS : St H w L) :
 Calls Tryz.prog 15 #[vA ([s0] ++ [s1]), vI a1] w (Done (fun v G => (R.int .i64).p G v r) H L) := by
 have hsub := Sub.refl H
 refine calls_of_run Tryz.func15 rfl Tryz.ntmps15 rfl ?_
 unfold g_laws_szAlgebra at q0
 refine run_seq (run_region ?_)
 refine r_box (v := vA ([s0] ++ [s1])) ([s0] ++ [s1]).toArray rfl rfl hS rfl ?_
 intro b1 w2 hS
 refine r_assign (vI 0) rfl rfl (reg_nil (run_seq (run_region (r_fieldAddr fld25_0 rfl rfl ?_))))
 refine r_loadOne (s0) ty22 rfl (hS.get mL) rfl rfl (r_move (vI a1) rfl rfl ?_)
 obtain ⟨r4, a8, q0⟩ := bind_some q0
 refine r_callFn Tryz.call77 (args2 rfl rfl) rfl (g_laws_szInt64S_ok a8 a7 hS) ?_
 rintro e4 w5 ⟨_, H4, rfl, a6, hS, rfl⟩
 refine ⟨_, rfl, ?_⟩
 have hsub := hsub.trans a6
 have a5 := a5.mono a6
 refine r_assign (vI r4) rfl rfl (reg_nil (run_seq (run_seq (run_region (r_move (vI r4) rfl rfl ?_)))))
 refine r_lss (k := .i64) (a := r4) (b := 0) rfl rfl rfl (reg_nil ?_)
 by_cases a3 : r4 < 0
 rw [if_pos a3] at q0
 refine run_cond_true (Eq.trans rfl (congrArg Value.bool (decide_eq_true a3))) (run_seq (run_region (r_assign (vI (-1)) rfl rfl (reg_nil ?_))))
 refine run_ret (vs := [vI (-1)]) Tryz.func15 ⟨rfl, trivial⟩ ?_
 have hz := Option.some.inj q0
 subst hz
 exact ⟨_, _, rfl, hsub, (St.dropA (A := [(b1, cA ([s0] ++ [s1]) 25)]) hS), rfl⟩
 rw [if_neg a3] at q0
 refine run_cond_false (Eq.trans rfl (congrArg Value.bool (decide_eq_false a3))) (run_skip (run_seq (run_region (r_fieldAddr fld25_1 rfl rfl ?_))))
 refine r_loadOne (s1) ty23 rfl (hS.get mL) rfl rfl (r_move (vI r4) rfl rfl ?_)
 obtain ⟨r7, a9, q0⟩ := bind_some q0
 refine r_callFn Tryz.call33 (args2 rfl rfl) rfl (g_laws_szFormS_ok a9 a5 hS) ?_
 rintro e7 w8 ⟨_, H7, rfl, b0, hS, rfl⟩
 refine ⟨_, rfl, ?_⟩
 have hsub := hsub.trans b0
 refine r_assign (vI r7) rfl rfl (reg_nil (run_seq (run_seq (run_region (r_move (vI r7) rfl rfl ?_)))))
 refine r_lss (k := .i64) (a := r7) (b := 0) rfl rfl rfl (reg_nil ?_)
 by_cases a4 : r7 < 0
 rw [if_pos a4] at q0
 refine run_cond_true (Eq.trans rfl (congrArg Value.bool (decide_eq_true a4))) (run_seq (run_region (r_assign (vI (-1)) rfl rfl (reg_nil ?_))))
 refine run_ret (vs := [vI (-1)]) Tryz.func15 ⟨rfl, trivial⟩ ?_
 have hz := Option.some.inj q0
 subst hz
 exact ⟨_, _, rfl, hsub, (St.dropA (A := [(b1, cA ([s0] ++ [s1]) 25)]) hS), rfl⟩
 rw [if_neg a4] at q0
 refine run_cond_false (Eq.trans rfl (congrArg Value.bool (decide_eq_false a4))) (run_skip (run_seq (run_region (r_move (vI r7) rfl rfl (r_assign (vI r7) rfl rfl (reg_nil ?_))))))
 refine run_ret (vs := [vI r7]) Tryz.func15 ⟨rfl, trivial⟩ ?_
 have hz := Option.some.inj q0
 subst hz
 exact ⟨_, _, rfl, hsub, (St.dropA (A := [(b1, cA ([s0] ++ [s1]) 25)]) hS), rfl⟩
def g_laws_toForm (K : Nat) (a0 : MpT) : Option MpT := ((g_laws_toTermS K a0).bind fun a4 => some a4)
theorem g_laws_toForm_ok {K : Nat} {a0 : MpT} {r : MpT} (q0 : g_laws_toForm K a0 = some r) {H : FH} {w : World} {L : OL} {s0 : Value} (a9 : RdSl yT H s0 a0) (hS : St H w L) :
 Calls Tryz.prog 29 #[vA ([s0])] w (Done (fun v G => (R.agg (tySl yT)).p (G.new H) v r) H L) := by
 have hsub := Sub.refl H
 refine calls_of_run Tryz.func29 rfl Tryz.ntmps29 rfl ?_
 unfold g_laws_toForm at q0
 refine run_seq (run_region ?_)
 refine r_box (v := vA ([s0])) ([s0]).toArray rfl rfl hS rfl ?_
 intro b1 w2 hS
 refine r_alloc (z := vA ([vN])) ([vN]).toArray ze47.zero rfl hS rfl ?_
 intro b4 w5 hS
 refine reg_nil (run_seq (run_region ?_))
 refine r_alloc (z := vA ([vN])) ([vN]).toArray ze47.zero rfl hS rfl ?_
 intro b7 w8 hS
 refine reg_nil (run_seq (run_region (r_fieldAddr fld42_0 rfl rfl ?_)))
 refine r_loadOne (s0) ty40 rfl (hS.get (mR (mR mL))) rfl rfl ?_
 obtain ⟨a4, a6, q0⟩ := bind_some q0
 refine r_callFn Tryz.call108 (args1 rfl) rfl (g_laws_toTermS_ok a6 a9 hS) ?_
 rintro b5 b6 ⟨a1, a5, rfl, a7, hS, a3⟩
 refine ⟨_, rfl, ?_⟩
 have b3 := a3
 have a8 : RdF yT H a5 a1 a4 := RdSl.mono (new_anti hsub) a3
 have a3 := RdSl.old a3
 have hsub := hsub.trans a7
 refine r_fieldAddr fld47_0 rfl rfl ?_
 refine r_store1 (v := a1) (cs := ([vN]).toArray) (cs' := ([a1]).toArray) ty45 rfl rfl hS a3.isOne rfl (Nat.le_of_ble_eq_true rfl) rfl ?_
 intro b0 hS
 refine reg_nil (run_seq (run_region ?_))
 refine r_loadAll ty47 rfl (hS.get mL) rfl rfl ?_
 have hS : St a5 b0 ([(b4, cA ([vN]) 47)] ++ ([(b7, cA ([a1]) 47)] ++ ([(b1, cA ([s0]) 42)] ++ L))) := hS.perm (perm1 (A1 := [(b7, cA ([a1]) 47)]))
 refine r_storeAll (v := vA ([a1])) (vs := ([a1]).toArray) (cs := ([vN]).toArray) ty47 rfl rfl rfl hS rfl (one1 a3.isOne) rfl ?_
 intro b2 hS
 have hS : St a5 b2 ([(b7, cA ([a1]) 47)] ++ ([(b4, cA ([a1]) 47)] ++ ([(b1, cA ([s0]) 42)] ++ L))) := hS.perm (perm1 (A1 := [(b7, cA ([a1]) 47)])).symm
 refine reg_nil ?_
 refine run_ret (vs := [vA ([a1])]) Tryz.func29 ⟨⟨_, rfl, run_loadAll ty47 (hS.get (mR mL)) rfl⟩, trivial⟩ ?_
 have hz := Option.some.inj q0
 subst hz
 exact ⟨_, _, rfl, hsub, (St.dropA (A := [(b1, cA ([s0]) 42)]) (St.dropA (A := [(b4, cA ([a1]) 47)]) (St.dropA (A := [(b7, cA ([a1]) 47)]) hS))), ⟨_, rfl, ⟨_, rfl, a8⟩⟩⟩
end Go.Proofs.YtfodlhkoafhplaaGreat
