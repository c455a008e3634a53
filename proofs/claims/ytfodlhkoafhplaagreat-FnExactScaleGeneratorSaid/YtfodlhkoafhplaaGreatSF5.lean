/- Walks of functions: each computes its pure function, if that gives a value. -/
import Derived.Test.YtfodlhkoafhplaaGreatSTy
import Derived.Test.YtfodlhkoafhplaaGreatSF3
import Derived.Test.YtfodlhkoafhplaaGreatSF2
namespace Go.Proofs.YtfodlhkoafhplaaGreat
open Go
set_option linter.unusedSimpArgs false
set_option linter.unusedVariables false
set_option maxRecDepth 100000
set_option maxHeartbeats 1000000
def g_spec_l01Add_j23 (K : Nat) (e9 : Int → MpT → Int → Option (Ex MpT (MpT))) (a3 : Int) (a4 : Int) (c3 : MpT) : Option (Ex MpT (MpT)) := e9 (IntKind.i64.wrap (a3 + 1)) c3 (IntKind.i64.wrap (a4 + 1))
def g_spec_l01Add_j22 (K : Nat) (e9 : Int → MpT → Int → Option (Ex MpT (MpT))) (a0 : MpT) (a1 : MpT) (a2 : Int) (a3 : Int) (a4 : Int) (a7 : MpT) (d0 : Bool) : Option (Ex MpT (MpT)) := (if d0 = true then (if 0 ≤ a4 then (if a4 < (a1.length : Int) then ((g_spec_l01Mod K (IntKind.i64.wrap (a2 * (rd a1 a4).2))).bind fun c6 => (if c6 = 0 then e9 a3 a7 (IntKind.i64.wrap (a4 + 1)) else (if a7.length + ([((rd a1 a4).1, c6)]).length ≤ 1099511627776 then e9 a3 (a7 ++ [((rd a1 a4).1, c6)]) (IntKind.i64.wrap (a4 + 1)) else none))) else none) else none) else (if 0 ≤ a3 then (if a3 < (a0.length : Int) then (if 0 ≤ a4 then (if a4 < (a1.length : Int) then ((g_spec_l01Mod K (IntKind.i64.wrap (a2 * (rd a1 a4).2))).bind fun h7 => ((g_spec_l01Mod K (IntKind.i64.wrap ((rd a0 a3).2 + h7))).bind fun c2 => (if c2 = 0 then g_spec_l01Add_j23 K (e9) a3 a4 a7 else (if a7.length + ([((rd a0 a3).1, c2)]).length ≤ 1099511627776 then g_spec_l01Add_j23 K (e9) a3 a4 (a7 ++ [((rd a0 a3).1, c2)]) else none)))) else none) else none) else none) else none))
def g_spec_l01Add_j21 (K : Nat) (e9 : Int → MpT → Int → Option (Ex MpT (MpT))) (a0 : MpT) (a1 : MpT) (a2 : Int) (a3 : Int) (a4 : Int) (a7 : MpT) (d3 : Bool) : Option (Ex MpT (MpT)) := (if d3 = true then (if 0 ≤ a3 then (if a3 < (a0.length : Int) then (if a7.length + ([((rd a0 a3).1, (rd a0 a3).2)]).length ≤ 1099511627776 then e9 (IntKind.i64.wrap (a3 + 1)) (a7 ++ [((rd a0 a3).1, (rd a0 a3).2)]) a4 else none) else none) else none) else (if a3 = (a0.length : Int) then g_spec_l01Add_j22 K (e9) a0 a1 a2 a3 a4 a7 true else (if 0 ≤ a4 then (if a4 < (a1.length : Int) then (if 0 ≤ a3 then (if a3 < (a0.length : Int) then ((g_spec_l01Before K ((rd a1 a4).1) ((rd a0 a3).1)).bind fun d1 => g_spec_l01Add_j22 K (e9) a0 a1 a2 a3 a4 a7 d1) else none) else none) else none) else none)))
def g_spec_l01Add_j20 (K : Nat) (e9 : Int → MpT → Int → Option (Ex MpT (MpT))) (a0 : MpT) (a1 : MpT) (a2 : Int) (a3 : Int) (a4 : Int) (a7 : MpT) (d4 : Bool) : Option (Ex MpT (MpT)) := (if d4 = true then (if a4 = (a1.length : Int) then g_spec_l01Add_j21 K (e9) a0 a1 a2 a3 a4 a7 true else (if a3 < (a0.length : Int) then (if 0 ≤ a3 then (if 0 ≤ a4 then (if a4 < (a1.length : Int) then ((g_spec_l01Before K ((rd a0 a3).1) ((rd a1 a4).1)).bind fun c7 => g_spec_l01Add_j21 K (e9) a0 a1 a2 a3 a4 a7 c7) else none) else none) else none) else g_spec_l01Add_j21 K (e9) a0 a1 a2 a3 a4 a7 false)) else some (.go a7))
def g_spec_l01Add_l0 (K : Nat) (a0 : MpT) (a1 : MpT) (a2 : Int) : Nat → Int → MpT → Int → Option (Ex MpT (MpT))
 | 0, _, _, _ => none
 | k + 1, a3, a7, a4 => (if a3 < (a0.length : Int) then g_spec_l01Add_j20 K (g_spec_l01Add_l0 K a0 a1 a2 k) a0 a1 a2 a3 a4 a7 true else g_spec_l01Add_j20 K (g_spec_l01Add_l0 K a0 a1 a2 k) a0 a1 a2 a3 a4 a7 (decide (a4 < (a1.length : Int))))
def g_spec_l01Add (K : Nat) (a0 : MpT) (a1 : MpT) (a2 : Int) : Option MpT := ((g_spec_l01Add_l0 K a0 a1 a2 K 0 ([] : List (A8 × Int)) 0).bind (Ex.elim (fun r => some r) (fun s => (fun (d2 : MpT) => some d2) s)))
theorem g_spec_l01Add_ok {K : Nat} {a0 : MpT} {a1 : MpT} {a2 : Int} {r : MpT} (q0 : g_spec_l01Add K a0 a1 a2 = some r) {H : FH} {w : World} {L : OL} {s0 : Value} {s1 : Value} (b0 : RdSl yT H s0 a0) (b3 : RdSl yT H s1 a1) (hS : St H w L) :
 Calls Tryz.prog 143 #[vA ([s0]), vA ([s1]), vI a2] w (Done (fun v G => (R.agg (tySl yT)).p G v r) H L) := by
 have hsub := Sub.refl H
 refine calls_of_run Tryz.func143 rfl Tryz.ntmps143 rfl ?_
 unfold g_spec_l01Add at q0
 refine run_seq (run_region ?_)
 refine r_box (v := vA ([s0])) ([s0]).toArray rfl rfl hS rfl ?_
 intro b1 w2 hS
 refine r_box (v := vA ([s1])) ([s1]).toArray rfl rfl hS rfl ?_
 intro b4 w5 hS
 refine r_alloc (z := vA ([vN])) ([vN]).toArray ze47.zero rfl hS rfl ?_
 intro b7 w8 hS
 refine reg_nil (run_seq (run_region ?_))
 refine r_build0 (vA ([vN])) bz47 rfl ?_
 refine r_alloc (z := vA ([vN])) ([vN]).toArray ze47.zero rfl hS rfl ?_
 intro c0 w11 hS
 refine r_storeAll (v := vA ([vN])) (vs := ([vN]).toArray) (cs := ([vN]).toArray) ty47 rfl rfl rfl hS rfl (one1 rfl) rfl ?_
 intro w13 hS
 refine reg_nil (run_seq (run_region (r_assign (vI 0) rfl rfl (r_assign (vI 0) rfl rfl (reg_nil (run_seq (run_block ?_)))))))
 have a52 : OwnSl yT 76 H (.slice none 0 0) [] [] := OwnSl.nil _ _ _
 obtain ⟨j7, f1, a53⟩ := bind_some q0
 refine loop_ind (id := 0) (fun k f w => ∃ (a3 : Int) (a7 : MpT) (a4 : Int) (H1 : FH) (a8 : OL) (a6 : Value), g_spec_l01Add_l0 K a0 a1 a2 k a3 a7 a4 = some j7 ∧ Sub H H1 ∧ St H1 w (a8 ++ ([(c0, cA ([a6]) 47)] ++ ([(b7, cA ([vN]) 47)] ++ ([(b4, cA ([s1]) 47)] ++ ([(b1, cA ([s0]) 47)] ++ L))))) ∧ OwnSl yT 76 H1 a6 a7 a8 ∧ RdSl yT H1 s0 a0 ∧ RdSl yT H1 s1 a1 ∧ ev f (.tmp 2) = vI a2 ∧ ev f (.tmp 3) = vP b1 ∧ ev f (.tmp 4) = vP b4 ∧ ev f (.tmp 6) = vP b7 ∧ ev f (.tmp 7) = vP c0 ∧ ev f (.tmp 8) = vI a3 ∧ ev f (.tmp 9) = vI a4) (fun f w => ∃ (d2 : MpT) (H1 : FH) (c5 : OL) (b8 : Value), j7 = .go d2 ∧ Sub H H1 ∧ St H1 w (c5 ++ ([(c0, cA ([b8]) 47)] ++ ([(b7, cA ([vN]) 47)] ++ ([(b4, cA ([s1]) 47)] ++ ([(b1, cA ([s0]) 47)] ++ L))))) ∧ OwnSl yT 76 H1 b8 d2 c5 ∧ RdSl yT H1 s0 a0 ∧ RdSl yT H1 s1 a1 ∧ ev f (.tmp 6) = vP b7 ∧ ev f (.tmp 7) = vP c0) rfl ?_ ?_ K ?_ ?_
 rintro f w ⟨a3, a7, a4, H1, a8, a6, f1, _⟩
 rw [g_spec_l01Add_l0] at f1; cases f1
 rintro k cx0 cx1 y8 hx0 ⟨a3, a7, a4, a54, a8, a6, f1, hsub, hS, a5, b0, b3, o7, j8, j9, o8, o9, k0, k1⟩
 rw [g_spec_l01Add_l0] at f1
 refine run_seq (run_seq ?_)
 refine run_cut (fun f w => ∃ (d4 : Bool) (H1 : FH), g_spec_l01Add_j20 K (g_spec_l01Add_l0 K a0 a1 a2 k) a0 a1 a2 a3 a4 a7 d4 = some j7 ∧ Sub H H1 ∧ St H1 w (a8 ++ ([(c0, cA ([a6]) 47)] ++ ([(b7, cA ([vN]) 47)] ++ ([(b4, cA ([s1]) 47)] ++ ([(b1, cA ([s0]) 47)] ++ L))))) ∧ RdSl yT H1 s0 a0 ∧ RdSl yT H1 s1 a1 ∧ OwnSl yT 76 H1 a6 a7 a8 ∧ ev f (.tmp 2) = vI a2 ∧ ev f (.tmp 3) = vP b1 ∧ ev f (.tmp 4) = vP b4 ∧ ev f (.tmp 6) = vP b7 ∧ ev f (.tmp 7) = vP c0 ∧ ev f (.tmp 8) = vI a3 ∧ ev f (.tmp 9) = vI a4 ∧ ev f (.tmp 24) = Value.bool d4) ?_ ?_
 rintro cx2 bm7 ⟨d4, a55, c1, hsub, hS, b0, b3, a5, k2, e0, d5, g9, h0, e1, d6, m3⟩
 unfold g_spec_l01Add_j20 at c1
 by_cases p1 : d4 = true
 rw [if_pos p1] at c1
 refine run_cond_true (Eq.trans (by exact m3) (congrArg Value.bool p1)) (run_skip (run_block (run_block (run_seq ?_))))
 refine run_cut (fun f w => ∃ (d3 : Bool) (H1 : FH), g_spec_l01Add_j21 K (g_spec_l01Add_l0 K a0 a1 a2 k) a0 a1 a2 a3 a4 a7 d3 = some j7 ∧ Sub H H1 ∧ St H1 w (a8 ++ ([(c0, cA ([a6]) 47)] ++ ([(b7, cA ([vN]) 47)] ++ ([(b4, cA ([s1]) 47)] ++ ([(b1, cA ([s0]) 47)] ++ L))))) ∧ RdSl yT H1 s0 a0 ∧ RdSl yT H1 s1 a1 ∧ OwnSl yT 76 H1 a6 a7 a8 ∧ ev f (.tmp 2) = vI a2 ∧ ev f (.tmp 3) = vP b1 ∧ ev f (.tmp 4) = vP b4 ∧ ev f (.tmp 6) = vP b7 ∧ ev f (.tmp 7) = vP c0 ∧ ev f (.tmp 8) = vI a3 ∧ ev f (.tmp 9) = vI a4 ∧ ev f (.tmp 61) = Value.bool d3) ?_ ?_
 rintro cx3 bm8 ⟨d3, bm9, b9, hsub, hS, b0, b3, a5, k3, d7, h1, k4, h2, d8, h3, m4⟩
 unfold g_spec_l01Add_j21 at b9
 by_cases p2 : d3 = true
 rw [if_pos p2] at b9
 refine run_cond_true (Eq.trans (by exact m4) (congrArg Value.bool p2)) (run_seq ?_)
 obtain ⟨cx4, b9⟩ := gd b9
 obtain ⟨cx5, b9⟩ := gd b9
 obtain ⟨b93, o93, cx6, E93, _, b67, x1, ⟨_, _, rfl, rfl, rfl⟩, b68⟩ := b0.elem (i := a3) (by omega) (by omega)
 refine run_draw 8 (tabL [(89, MP.eq (vP c0)), (90, MP.eq (a6)), (91, MP.eq (vP b1)), (92, MP.eq (s0)), (93, MP.eq (vI a3)), (94, MP.eq (Value.pointer (some ⟨b93, o93, none⟩))), (95, MP.eq (vA (enc8 .u8 ((rd a0 a3).1) ++ [vI ((rd a0 a3).2)]))), (96, MP.sl yT ([((rd a0 a3).1, (rd a0 a3).2)]))]) [] mixed rfl rfl rfl hS (hop_q rfl ?_ (hop_q rfl ?_ (hop_q rfl ?_ (hop_q rfl ?_ (hop_q rfl ?_ (hop_q rfl ?_ (hop_q rfl ?_ (hop_q rfl ?_ hop_nil)))))))) ?_
 intro f16 w17 H18 X19 cx7 hS b69 cx8 hcq
 refine r_fieldAddr fld47_0 (evT (b69 7 rfl) h2) rfl ?_
 exact qn (.refl _) rfl hS rfl
 intro f25 w26 H27 X28 cx9 hS cy0 b70 hcq
 have q33 : ev f25 (.tmp 89) = vP c0 := b70 0 89 rfl rfl
 refine r_loadOne (a6) ty45 q33 (hS.get (mR (mR mL))) rfl rfl ?_
 exact qn (.refl _) rfl hS rfl
 intro f34 w35 H36 X37 cy1 hS b71 cy2 hcq
 refine r_fieldAddr fld47_0 (evT (b71 3 rfl) d7) rfl ?_
 exact qn (.refl _) rfl hS rfl
 intro f43 w44 H45 X46 cy3 hS cy4 b72 hcq
 have q51 : ev f43 (.tmp 91) = vP b1 := b72 2 91 rfl rfl
 refine r_loadOne (s0) ty45 q51 (hS.get (mR (mR (mR (mR (mR mL)))))) rfl rfl ?_
 exact qn (.refl _) rfl hS rfl
 intro f52 w53 H54 X55 cy5 hS b73 cy6 hcq
 refine r_move (vI a3) (evT (b73 8 rfl) d8) rfl ?_
 exact qn (.refl _) rfl hS rfl
 intro f83 w84 H85 X86 cy7 hS cy8 a56 hcq
 have q91 : ev f83 (.tmp 92) = s0 := a56 3 92 rfl rfl
 have q92 : ev f83 (.tmp 93) = vI a3 := a56 4 93 rfl rfl
 refine r_indexAt sl45 rfl q91 b67 q92 (by omega) (by omega) rfl ?_
 exact qn (.refl _) rfl hS rfl
 intro f94 w95 H96 X97 b74 hS cy9 ag4 hcq
 have x1 := b74.1 _ _ x1
 have b75 : ev f94 (.tmp 94) = Value.pointer (some ⟨b93, o93, none⟩) := ag4 5 94 rfl rfl
 refine r_loadAgg (enc8 .u8 ((rd a0 a3).1) ++ [vI ((rd a0 a3).2)]) ty76 b75 (hS.froz _ _ x1) rfl b68 rfl ?_
 exact qn (.refl _) rfl hS rfl
 intro b76 cz0 cz1 cz2 c01 hS c02 ag5 hcq
 have b77 : ev b76 (.tmp 95) = vA (enc8 .u8 ((rd a0 a3).1) ++ [vI ((rd a0 a3).2)]) := ag5 6 95 rfl rfl
 refine r_lit (τ := yT) sl45 ze76 rfl [vA (enc8 .u8 ((rd a0 a3).1) ++ [vI ((rd a0 a3).2)])] [((rd a0 a3).1, (rd a0 a3).2)] rfl rfl (parts1 b77) (rel1 ⟨_, _, rfl, rfl, rfl⟩) (by decide) (by decide) hS rfl ?_
 intro cz3 cz4 cz5 ag6 hS ag7
 exact qn ag6 rfl hS ag7
 intro a57 b78 m5 k7 hS f3 y9 hcq
 have hS : St m5 b78 (a8 ++ ([(c0, cA ([a6]) 47)] ++ ([(b7, cA ([vN]) 47)] ++ ([(b4, cA ([s1]) 47)] ++ ([(b1, cA ([s0]) 47)] ++ L))))) := hS
 have hsub := hsub.trans k7
 have b3 := b3.mono k7
 have b0 := b0.mono k7
 have a5 := a5.mono k7
 have a58 := evT (f3 7 rfl) h2
 have b79 : ev a57 (.tmp 90) = a6 := y9 1 90 (by decide) rfl
 obtain ⟨b80, a59⟩ : ∃ v, ev a57 (.tmp 96) = v := ⟨_, rfl⟩
 have ag8 : RdSl yT m5 b80 ([((rd a0 a3).1, (rd a0 a3).2)]) := a59 ▸ (y9 7 96 (by decide) rfl)
 obtain ⟨ag9, b9⟩ := gd b9
 refine r_append (τ := yT) ap45 rfl (by exact b79) (by exact a59) a5 hS ag8 ag9 rfl ?_
 intro p3 b81 m6 z0 hS
 refine r_fieldAddr fld47_0 (by exact a58) rfl ?_
 have hS : St m5 b81 ([(c0, cA ([a6]) 47)] ++ (m6 ++ ([(b7, cA ([vN]) 47)] ++ ([(b4, cA ([s1]) 47)] ++ ([(b1, cA ([s0]) 47)] ++ L))))) := hS.perm (perm1 (A1 := m6))
 refine r_store1 (v := p3) (cs := ([a6]).toArray) (cs' := ([p3]).toArray) ty45 rfl rfl hS z0.isOne rfl (Nat.le_of_ble_eq_true rfl) rfl ?_
 intro b82 hS
 have hS : St m5 b82 (m6 ++ ([(c0, cA ([p3]) 47)] ++ ([(b7, cA ([vN]) 47)] ++ ([(b4, cA ([s1]) 47)] ++ ([(b1, cA ([s0]) 47)] ++ L))))) := hS.perm (perm1 (A1 := m6)).symm
 refine reg_nil (run_region (r_move (vI a3) (by exact (evT (f3 8 rfl) d8)) rfl ?_))
 refine r_add (IntKind.i64.wrap (a3 + 1)) rfl rfl rfl rfl (r_assign (vI (IntKind.i64.wrap (a3 + 1))) rfl rfl (reg_nil (run_inBlock (run_inBlock ?_))))
 exact y8 _ _ ⟨(IntKind.i64.wrap (a3 + 1)), (a7 ++ [((rd a0 a3).1, (rd a0 a3).2)]), a4, m5, m6, p3, b9, hsub, hS, z0, b0, b3, (evT (f3 2 rfl) k3), (evT (f3 3 rfl) d7), (evT (f3 4 rfl) h1), (evT (f3 6 rfl) k4), a58, rfl, (evT (f3 9 rfl) h3)⟩
 rw [if_neg p2] at b9
 refine run_cond_false (Eq.trans (by exact m4) (congrArg Value.bool (bfalse p2))) (run_seq ?_)
 refine run_cut (fun f w => ∃ (d0 : Bool) (H1 : FH), g_spec_l01Add_j22 K (g_spec_l01Add_l0 K a0 a1 a2 k) a0 a1 a2 a3 a4 a7 d0 = some j7 ∧ Sub H H1 ∧ St H1 w (a8 ++ ([(c0, cA ([a6]) 47)] ++ ([(b7, cA ([vN]) 47)] ++ ([(b4, cA ([s1]) 47)] ++ ([(b1, cA ([s0]) 47)] ++ L))))) ∧ RdSl yT H1 s0 a0 ∧ RdSl yT H1 s1 a1 ∧ OwnSl yT 76 H1 a6 a7 a8 ∧ ev f (.tmp 2) = vI a2 ∧ ev f (.tmp 3) = vP b1 ∧ ev f (.tmp 4) = vP b4 ∧ ev f (.tmp 6) = vP b7 ∧ ev f (.tmp 7) = vP c0 ∧ ev f (.tmp 8) = vI a3 ∧ ev f (.tmp 9) = vI a4 ∧ ev f (.tmp 101) = Value.bool d0) ?_ ?_
 rintro cz6 bn7 ⟨d0, bn8, a9, hsub, hS, b0, b3, a5, f2, h4, e2, k5, h5, h6, e3, k6⟩
 unfold g_spec_l01Add_j22 at a9
 by_cases k8 : d0 = true
 rw [if_pos k8] at a9
 refine run_cond_true (Eq.trans (by exact k6) (congrArg Value.bool k8)) (run_seq (run_seq (run_region (r_move (vI a2) (by exact f2) rfl (r_fieldAddr fld47_0 (by exact e2) rfl ?_)))))
 refine r_loadOne (s1) ty45 rfl (hS.get (mR (mR (mR mL)))) rfl rfl (r_move (vI a4) (by exact e3) rfl ?_)
 obtain ⟨c03, a9⟩ := gd a9
 obtain ⟨c04, a9⟩ := gd a9
 obtain ⟨cz7, cz8, c05, cz9, _, ah0, ah1, ⟨_, _, rfl, rfl, rfl⟩, ah2⟩ := b3.elem (i := a4) (by omega) (by omega)
 refine r_indexAt sl45 rfl rfl ah0 rfl (by omega) (by omega) rfl (r_fieldAddr fld76_1 rfl rfl ?_)
 refine r_loadOne (vI ((rd a1 a4).2)) ty2 rfl (hS.froz _ _ ah1) (ah2 8 (show 8 < 9 by decide)) rfl ?_
 refine r_mul (IntKind.i64.wrap (a2 * (rd a1 a4).2)) rfl rfl rfl rfl ?_
 obtain ⟨c6, ah3, a9⟩ := bind_some a9
 refine r_callFn Tryz.call217 (args1 rfl) rfl (g_spec_l01Mod_ok ah3  hS) ?_
 rintro d00 d01 ⟨_, b83, rfl, k9, hS, rfl⟩
 refine ⟨_, rfl, ?_⟩
 have hsub := hsub.trans k9
 have b3 := b3.mono k9
 have b0 := b0.mono k9
 have a5 := a5.mono k9
 refine r_assign (vI c6) rfl rfl (reg_nil (run_seq (run_region (r_move (vI c6) rfl rfl ?_))))
 refine r_neq (k := .i64) (a := c6) (b := 0) rfl rfl rfl (reg_nil ?_)
 by_cases l0 : c6 = 0
 rw [if_pos l0] at a9
 refine run_cond_false (Eq.trans rfl (congrArg (fun b => Value.bool (!b)) (decide_eq_true l0))) (run_skip (run_region (r_move (vI a4) (by exact e3) rfl ?_)))
 refine r_add (IntKind.i64.wrap (a4 + 1)) rfl rfl rfl rfl (r_assign (vI (IntKind.i64.wrap (a4 + 1))) rfl rfl (reg_nil (run_inBlock (run_inBlock ?_))))
 exact y8 _ _ ⟨a3, a7, (IntKind.i64.wrap (a4 + 1)), b83, a8, a6, a9, hsub, hS, a5, b0, b3, f2, h4, e2, k5, h5, h6, rfl⟩
 rw [if_neg l0] at a9
 refine run_cond_true (Eq.trans rfl (congrArg (fun b => Value.bool (!b)) (decide_eq_false l0))) ?_
 obtain ⟨p4, p5, c06, d02, _, ah4, p6, ⟨_, _, rfl, rfl, rfl⟩, ah5⟩ := b3.elem (i := a4) (by omega) (by omega)
 refine run_draw 11 (tabL [(133, MP.eq (vP c0)), (134, MP.eq (a6)), (135, MP.eq (vP b4)), (136, MP.eq (s1)), (137, MP.eq (vI a4)), (138, MP.eq (Value.pointer (some ⟨p4, p5, none⟩))), (139, MP.eq (Value.pointer (some ⟨p4, p5 + 0, none⟩))), (140, MP.eq (vA (enc8 .u8 ((rd a1 a4).1)))), (141, MP.eq (vI c6)), (142, MP.eq (vA (enc8 .u8 ((rd a1 a4).1) ++ [vI c6]))), (143, MP.sl yT ([((rd a1 a4).1, c6)]))]) [] mixed rfl rfl rfl hS (hop_q rfl ?_ (hop_q rfl ?_ (hop_q rfl ?_ (hop_q rfl ?_ (hop_q rfl ?_ (hop_q rfl ?_ (hop_q rfl ?_ (hop_q rfl ?_ (hop_q rfl ?_ (hop_q rfl ?_ (hop_q rfl ?_ hop_nil))))))))))) ?_
 intro d03 d04 d05 d06 c07 hS ah6 c08 hcq
 refine r_fieldAddr fld47_0 (evT (ah6 7 rfl) h5) rfl ?_
 exact qn (.refl _) rfl hS rfl
 intro b84 d07 d08 d09 c09 hS c10 ah7 hcq
 have b85 : ev b84 (.tmp 133) = vP c0 := ah7 0 133 rfl rfl
 refine r_loadOne (a6) ty45 b85 (hS.get (mR (mR mL))) rfl rfl ?_
 exact qn (.refl _) rfl hS rfl
 intro d10 d11 d12 d13 c11 hS ah8 c12 hcq
 refine r_fieldAddr fld47_0 (evT (ah8 4 rfl) e2) rfl ?_
 exact qn (.refl _) rfl hS rfl
 intro b86 d14 d15 d16 c13 hS c14 ah9 hcq
 have b87 : ev b86 (.tmp 135) = vP b4 := ah9 2 135 rfl rfl
 refine r_loadOne (s1) ty45 b87 (hS.get (mR (mR (mR (mR mL))))) rfl rfl ?_
 exact qn (.refl _) rfl hS rfl
 intro d17 d18 d19 d20 c15 hS ai0 c16 hcq
 refine r_move (vI a4) (evT (ai0 9 rfl) e3) rfl ?_
 exact qn (.refl _) rfl hS rfl
 intro a60 d21 d22 d23 c17 hS c18 z1 hcq
 have b88 : ev a60 (.tmp 136) = s1 := z1 3 136 rfl rfl
 have b89 : ev a60 (.tmp 137) = vI a4 := z1 4 137 rfl rfl
 refine r_indexAt sl45 rfl b88 ah4 b89 (by omega) (by omega) rfl ?_
 exact qn (.refl _) rfl hS rfl
 intro b90 d24 d25 d26 c19 hS c20 ai1 hcq
 have b91 : ev b90 (.tmp 138) = Value.pointer (some ⟨p4, p5, none⟩) := ai1 5 138 rfl rfl
 refine r_fieldAddr fld76_0 b91 rfl ?_
 exact qn (.refl _) rfl hS rfl
 intro b92 d27 d28 d29 ai2 hS c21 ai3 hcq
 have p6 := ai2.1 _ _ p6
 have b94 : ev b92 (.tmp 139) = Value.pointer (some ⟨p4, p5 + 0, none⟩) := ai3 6 139 rfl rfl
 refine r_loadAgg (enc8 .u8 ((rd a1 a4).1)) ty70 b94 (hS.froz _ _ p6) rfl (sub_cells ([]) (enc8 .u8 ((rd a1 a4).1)) (([vI ((rd a1 a4).2)])) ah5 (Nat.le_of_ble_eq_true rfl)) rfl ?_
 exact qn (.refl _) rfl hS rfl
 intro b95 d30 d31 d32 c22 hS ai4 c23 hcq
 have b96 : ev b95 (.tmp 10) = vI c6 := Eq.trans (ai4 10 rfl) rfl
 refine r_move (vI c6) b96 rfl ?_
 exact qn (.refl _) rfl hS rfl
 intro a61 d33 d34 d35 c24 hS c25 z2 hcq
 have b97 : ev a61 (.tmp 140) = vA (enc8 .u8 ((rd a1 a4).1)) := z2 7 140 rfl rfl
 have b98 : ev a61 (.tmp 141) = vI c6 := z2 8 141 rfl rfl
 refine r_build (enc8 .u8 ((rd a1 a4).1) ++ [vI c6]) bu76 (parts2 b97 b98) (fill_cons rfl rfl rfl (Nat.le_of_ble_eq_true rfl) (fill_cons rfl rfl rfl (Nat.le_of_ble_eq_true rfl) (fill_nil rfl))) rfl ?_
 exact qn (.refl _) rfl hS rfl
 intro b99 d36 d37 d38 c26 hS c27 ai5 hcq
 have ba0 : ev b99 (.tmp 142) = vA (enc8 .u8 ((rd a1 a4).1) ++ [vI c6]) := ai5 9 142 rfl rfl
 refine r_lit (τ := yT) sl45 ze76 rfl [vA (enc8 .u8 ((rd a1 a4).1) ++ [vI c6])] [((rd a1 a4).1, c6)] rfl rfl (parts1 ba0) (rel1 ⟨_, _, rfl, rfl, rfl⟩) (by decide) (by decide) hS rfl ?_
 intro d39 d40 d41 ai6 hS ai7
 exact qn ai6 rfl hS ai7
 intro a62 ba1 m7 l1 hS f4 z3 hcq
 have hS : St m7 ba1 (a8 ++ ([(c0, cA ([a6]) 47)] ++ ([(b7, cA ([vN]) 47)] ++ ([(b4, cA ([s1]) 47)] ++ ([(b1, cA ([s0]) 47)] ++ L))))) := hS
 have hsub := hsub.trans l1
 have b3 := b3.mono l1
 have b0 := b0.mono l1
 have a5 := a5.mono l1
 have a63 := evT (f4 7 rfl) h5
 have ba2 : ev a62 (.tmp 134) = a6 := z3 1 134 (by decide) rfl
 obtain ⟨ba3, a64⟩ : ∃ v, ev a62 (.tmp 143) = v := ⟨_, rfl⟩
 have ai8 : RdSl yT m7 ba3 ([((rd a1 a4).1, c6)]) := a64 ▸ (z3 10 143 (by decide) rfl)
 obtain ⟨ai9, a9⟩ := gd a9
 refine r_append (τ := yT) ap45 rfl (by exact ba2) (by exact a64) a5 hS ai8 ai9 rfl ?_
 intro p7 ba4 m8 z4 hS
 refine r_fieldAddr fld47_0 (by exact a63) rfl ?_
 have hS : St m7 ba4 ([(c0, cA ([a6]) 47)] ++ (m8 ++ ([(b7, cA ([vN]) 47)] ++ ([(b4, cA ([s1]) 47)] ++ ([(b1, cA ([s0]) 47)] ++ L))))) := hS.perm (perm1 (A1 := m8))
 refine r_store1 (v := p7) (cs := ([a6]).toArray) (cs' := ([p7]).toArray) ty45 rfl rfl hS z4.isOne rfl (Nat.le_of_ble_eq_true rfl) rfl ?_
 intro ba5 hS
 have hS : St m7 ba5 (m8 ++ ([(c0, cA ([p7]) 47)] ++ ([(b7, cA ([vN]) 47)] ++ ([(b4, cA ([s1]) 47)] ++ ([(b1, cA ([s0]) 47)] ++ L))))) := hS.perm (perm1 (A1 := m8)).symm
 refine reg_nil (run_region (r_move (vI a4) (by exact (evT (f4 9 rfl) e3)) rfl ?_))
 refine r_add (IntKind.i64.wrap (a4 + 1)) rfl rfl rfl rfl (r_assign (vI (IntKind.i64.wrap (a4 + 1))) rfl rfl (reg_nil (run_inBlock (run_inBlock ?_))))
 exact y8 _ _ ⟨a3, (a7 ++ [((rd a1 a4).1, c6)]), (IntKind.i64.wrap (a4 + 1)), m7, m8, p7, a9, hsub, hS, z4, b0, b3, (evT (f4 2 rfl) f2), (evT (f4 3 rfl) h4), (evT (f4 4 rfl) e2), (evT (f4 6 rfl) k5), a63, (evT (f4 8 rfl) h6), rfl⟩
 rw [if_neg k8] at a9
 refine run_cond_false (Eq.trans (by exact k6) (congrArg Value.bool (bfalse k8))) (run_seq (run_seq ?_))
 obtain ⟨c28, a9⟩ := gd a9
 obtain ⟨c29, a9⟩ := gd a9
 obtain ⟨p8, p9, c30, d42, _, aj0, q1, ⟨_, _, rfl, rfl, rfl⟩, aj1⟩ := b0.elem (i := a3) (by omega) (by omega)
 obtain ⟨c31, a9⟩ := gd a9
 obtain ⟨c32, a9⟩ := gd a9
 obtain ⟨q2, q3, c33, d43, _, aj2, q4, ⟨_, _, rfl, rfl, rfl⟩, aj3⟩ := b3.elem (i := a4) (by omega) (by omega)
 obtain ⟨h7, aj4, a9⟩ := bind_some a9
 obtain ⟨c2, aj5, a9⟩ := bind_some a9
 refine run_draw 18 (tabL [(25, MP.eq (vP b1)), (26, MP.eq (s0)), (27, MP.eq (vI a3)), (28, MP.eq (Value.pointer (some ⟨p8, p9, none⟩))), (29, MP.eq (Value.pointer (some ⟨p8, p9 + 8, none⟩))), (30, MP.eq (vI ((rd a0 a3).2))), (31, MP.eq (vI a2)), (32, MP.eq (vP b4)), (33, MP.eq (s1)), (34, MP.eq (vI a4)), (35, MP.eq (Value.pointer (some ⟨q2, q3, none⟩))), (36, MP.eq (Value.pointer (some ⟨q2, q3 + 8, none⟩))), (37, MP.eq (vI ((rd a1 a4).2))), (38, MP.eq (vI (IntKind.i64.wrap (a2 * (rd a1 a4).2)))), (39, MP.eq (vI h7)), (40, MP.eq (vI (IntKind.i64.wrap ((rd a0 a3).2 + h7)))), (41, MP.eq (vI c2)), (11, MP.eq (vI c2))]) [] mixed rfl rfl rfl hS (hop_q rfl ?_ (hop_q rfl ?_ (hop_q rfl ?_ (hop_q rfl ?_ (hop_q rfl ?_ (hop_q rfl ?_ (hop_q rfl ?_ (hop_q rfl ?_ (hop_q rfl ?_ (hop_q rfl ?_ (hop_q rfl ?_ (hop_q rfl ?_ (hop_q rfl ?_ (hop_q rfl ?_ (hop_q rfl ?_ (hop_q rfl ?_ (hop_q rfl ?_ (hop_q rfl ?_ hop_nil)))))))))))))))))) ?_
 intro d44 d45 d46 d47 c34 hS aj6 c35 hcq
 refine r_fieldAddr fld47_0 (evT (aj6 3 rfl) h4) rfl ?_
 exact qn (.refl _) rfl hS rfl
 intro ba6 d48 d49 d50 c36 hS c37 aj7 hcq
 have ba7 : ev ba6 (.tmp 25) = vP b1 := aj7 0 25 rfl rfl
 refine r_loadOne (s0) ty45 ba7 (hS.get (mR (mR (mR (mR (mR mL)))))) rfl rfl ?_
 exact qn (.refl _) rfl hS rfl
 intro d51 d52 d53 d54 c38 hS aj8 c39 hcq
 refine r_move (vI a3) (evT (aj8 8 rfl) h6) rfl ?_
 exact qn (.refl _) rfl hS rfl
 intro a65 d55 d56 d57 c40 hS c41 z5 hcq
 have ba8 : ev a65 (.tmp 26) = s0 := z5 1 26 rfl rfl
 have ba9 : ev a65 (.tmp 27) = vI a3 := z5 2 27 rfl rfl
 refine r_indexAt sl45 rfl ba8 aj0 ba9 (by omega) (by omega) rfl ?_
 exact qn (.refl _) rfl hS rfl
 intro bb0 d58 d59 d60 c42 hS c43 aj9 hcq
 have bb1 : ev bb0 (.tmp 28) = Value.pointer (some ⟨p8, p9, none⟩) := aj9 3 28 rfl rfl
 refine r_fieldAddr fld76_1 bb1 rfl ?_
 exact qn (.refl _) rfl hS rfl
 intro bb2 d61 d62 d63 ak0 hS c44 ak1 hcq
 have q1 := ak0.1 _ _ q1
 have bb3 : ev bb2 (.tmp 29) = Value.pointer (some ⟨p8, p9 + 8, none⟩) := ak1 4 29 rfl rfl
 refine r_loadOne (vI ((rd a0 a3).2)) ty2 bb3 (hS.froz _ _ q1) (aj1 8 (show 8 < 9 by decide)) rfl ?_
 exact qn (.refl _) rfl hS rfl
 intro d64 d65 d66 d67 c45 hS ak2 c46 hcq
 refine r_move (vI a2) (evT (ak2 2 rfl) f2) rfl ?_
 exact qn (.refl _) rfl hS rfl
 intro d68 d69 d70 d71 c47 hS ak3 c48 hcq
 refine r_fieldAddr fld47_0 (evT (ak3 4 rfl) e2) rfl ?_
 exact qn (.refl _) rfl hS rfl
 intro bb4 d72 d73 d74 c49 hS c50 ak4 hcq
 have bb5 : ev bb4 (.tmp 32) = vP b4 := ak4 7 32 rfl rfl
 refine r_loadOne (s1) ty45 bb5 (hS.get (mR (mR (mR (mR mL))))) rfl rfl ?_
 exact qn (.refl _) rfl hS rfl
 intro d75 d76 d77 d78 c51 hS ak5 c52 hcq
 refine r_move (vI a4) (evT (ak5 9 rfl) e3) rfl ?_
 exact qn (.refl _) rfl hS rfl
 intro a66 d79 d80 d81 c53 hS c54 z6 hcq
 have bb6 : ev a66 (.tmp 33) = s1 := z6 8 33 rfl rfl
 have bb7 : ev a66 (.tmp 34) = vI a4 := z6 9 34 rfl rfl
 refine r_indexAt sl45 rfl bb6 aj2 bb7 (by omega) (by omega) rfl ?_
 exact qn (.refl _) rfl hS rfl
 intro bb8 d82 d83 d84 c55 hS c56 ak6 hcq
 have bb9 : ev bb8 (.tmp 35) = Value.pointer (some ⟨q2, q3, none⟩) := ak6 10 35 rfl rfl
 refine r_fieldAddr fld76_1 bb9 rfl ?_
 exact qn (.refl _) rfl hS rfl
 intro bc0 d85 d86 d87 ak7 hS c57 ak8 hcq
 have q4 := ak7.1 _ _ q4
 have bc1 : ev bc0 (.tmp 36) = Value.pointer (some ⟨q2, q3 + 8, none⟩) := ak8 11 36 rfl rfl
 refine r_loadOne (vI ((rd a1 a4).2)) ty2 bc1 (hS.froz _ _ q4) (aj3 8 (show 8 < 9 by decide)) rfl ?_
 exact qn (.refl _) rfl hS rfl
 intro a67 d88 d89 d90 c58 hS c59 z7 hcq
 have bc2 : ev a67 (.tmp 31) = vI a2 := z7 6 31 rfl rfl
 have bc3 : ev a67 (.tmp 37) = vI ((rd a1 a4).2) := z7 12 37 rfl rfl
 refine r_mul (IntKind.i64.wrap (a2 * (rd a1 a4).2)) bc2 bc3 rfl rfl ?_
 exact qn (.refl _) rfl hS rfl
 intro bc4 d91 d92 d93 c60 hS c61 ak9 hcq
 have bc5 : ev bc4 (.tmp 38) = vI (IntKind.i64.wrap (a2 * (rd a1 a4).2)) := ak9 13 38 rfl rfl
 refine r_callFn Tryz.call217 (args1 bc5) rfl (g_spec_l01Mod_ok aj4  hS) ?_
 rintro d94 d95 ⟨_, d96, rfl, al0, hS, rfl⟩
 refine ⟨_, rfl, ?_⟩
 exact qn al0 rfl hS rfl
 intro a68 d97 d98 d99 c62 hS c63 z8 hcq
 have bc6 : ev a68 (.tmp 30) = vI ((rd a0 a3).2) := z8 5 30 rfl rfl
 have bc7 : ev a68 (.tmp 39) = vI h7 := z8 14 39 rfl rfl
 refine r_add (IntKind.i64.wrap ((rd a0 a3).2 + h7)) bc6 bc7 rfl rfl ?_
 exact qn (.refl _) rfl hS rfl
 intro bc8 da0 da1 da2 c64 hS c65 al1 hcq
 have bc9 : ev bc8 (.tmp 40) = vI (IntKind.i64.wrap ((rd a0 a3).2 + h7)) := al1 15 40 rfl rfl
 refine r_callFn Tryz.call217 (args1 bc9) rfl (g_spec_l01Mod_ok aj5  hS) ?_
 rintro da3 da4 ⟨_, da5, rfl, al2, hS, rfl⟩
 refine ⟨_, rfl, ?_⟩
 exact qn al2 rfl hS rfl
 intro bd0 da6 da7 da8 c66 hS c67 al3 hcq
 have bd1 : ev bd0 (.tmp 41) = vI c2 := al3 16 41 rfl rfl
 refine r_assign (vI c2) bd1 rfl ?_
 exact qn (.refl _) rfl hS rfl
 intro bd2 bd3 a69 l2 hS f5 al4 hcq
 have hS : St a69 bd3 (a8 ++ ([(c0, cA ([a6]) 47)] ++ ([(b7, cA ([vN]) 47)] ++ ([(b4, cA ([s1]) 47)] ++ ([(b1, cA ([s0]) 47)] ++ L))))) := hS
 have hsub := hsub.trans l2
 have b3 := b3.mono l2
 have b0 := b0.mono l2
 have a5 := a5.mono l2
 have a70 := evT (f5 2 rfl) f2
 have x2 := evT (f5 3 rfl) h4
 have a71 := evT (f5 4 rfl) e2
 have a72 := evT (f5 6 rfl) k5
 have x3 := evT (f5 7 rfl) h5
 have x4 := evT (f5 8 rfl) h6
 have a73 := evT (f5 9 rfl) e3
 have a74 : ev bd2 (.tmp 11) = vI c2 := al4 17 11 (by decide) rfl
 refine reg_nil (run_seq (run_region (r_move (vI c2) (by exact a74) rfl ?_)))
 refine r_neq (k := .i64) (a := c2) (b := 0) rfl rfl rfl (reg_nil ?_)
 refine run_cut (fun f w => ∃ (c3 : MpT) (H1 : FH) (c8 : OL) (c9 : Value), g_spec_l01Add_j23 K (g_spec_l01Add_l0 K a0 a1 a2 k) a3 a4 c3 = some j7 ∧ Sub H H1 ∧ St H1 w (c8 ++ ([(c0, cA ([c9]) 47)] ++ ([(b7, cA ([vN]) 47)] ++ ([(b4, cA ([s1]) 47)] ++ ([(b1, cA ([s0]) 47)] ++ L))))) ∧ OwnSl yT 76 H1 c9 c3 c8 ∧ RdSl yT H1 s0 a0 ∧ RdSl yT H1 s1 a1 ∧ ev f (.tmp 2) = vI a2 ∧ ev f (.tmp 3) = vP b1 ∧ ev f (.tmp 4) = vP b4 ∧ ev f (.tmp 6) = vP b7 ∧ ev f (.tmp 7) = vP c0 ∧ ev f (.tmp 8) = vI a3 ∧ ev f (.tmp 9) = vI a4) ?_ ?_
 rintro da9 bn9 ⟨c3, a75, c8, c9, m9, hsub, hS, h8, b0, b3, a44, a45, a46, a47, a48, a49, a50⟩
 unfold g_spec_l01Add_j23 at m9
 refine run_seq (run_region (r_move (vI a3) (by exact a49) rfl ?_))
 refine r_add (IntKind.i64.wrap (a3 + 1)) rfl rfl rfl rfl (r_assign (vI (IntKind.i64.wrap (a3 + 1))) rfl rfl (reg_nil (run_region (r_move (vI a4) (by exact a50) rfl ?_))))
 refine r_add (IntKind.i64.wrap (a4 + 1)) rfl rfl rfl rfl (r_assign (vI (IntKind.i64.wrap (a4 + 1))) rfl rfl (reg_nil (run_inBlock (run_inBlock ?_))))
 exact y8 _ _ ⟨(IntKind.i64.wrap (a3 + 1)), c3, (IntKind.i64.wrap (a4 + 1)), a75, c8, c9, m9, hsub, hS, h8, b0, b3, a44, a45, a46, a47, a48, rfl, rfl⟩
 intro a76
 by_cases l3 : c2 = 0
 rw [if_pos l3] at a9
 refine run_cond_false (Eq.trans rfl (congrArg (fun b => Value.bool (!b)) (decide_eq_true l3))) (run_skip ?_)
 exact a76 _ _ ⟨a7, a69, a8, a6, a9, hsub, hS, a5, b0, b3, a70, x2, a71, a72, x3, x4, a73⟩
 rw [if_neg l3] at a9
 refine run_cond_true (Eq.trans rfl (congrArg (fun b => Value.bool (!b)) (decide_eq_false l3))) ?_
 obtain ⟨q5, q6, c68, db0, _, al5, q7, ⟨_, _, rfl, rfl, rfl⟩, al6⟩ := b0.elem (i := a3) (by omega) (by omega)
 refine run_draw 11 (tabL [(44, MP.eq (vP c0)), (45, MP.eq (a6)), (46, MP.eq (vP b1)), (47, MP.eq (s0)), (48, MP.eq (vI a3)), (49, MP.eq (Value.pointer (some ⟨q5, q6, none⟩))), (50, MP.eq (Value.pointer (some ⟨q5, q6 + 0, none⟩))), (51, MP.eq (vA (enc8 .u8 ((rd a0 a3).1)))), (52, MP.eq (vI c2)), (53, MP.eq (vA (enc8 .u8 ((rd a0 a3).1) ++ [vI c2]))), (54, MP.sl yT ([((rd a0 a3).1, c2)]))]) [] mixed rfl rfl rfl hS (hop_q rfl ?_ (hop_q rfl ?_ (hop_q rfl ?_ (hop_q rfl ?_ (hop_q rfl ?_ (hop_q rfl ?_ (hop_q rfl ?_ (hop_q rfl ?_ (hop_q rfl ?_ (hop_q rfl ?_ (hop_q rfl ?_ hop_nil))))))))))) ?_
 intro db1 db2 db3 db4 c69 hS al7 c70 hcq
 refine r_fieldAddr fld47_0 (evT (al7 7 rfl) x3) rfl ?_
 exact qn (.refl _) rfl hS rfl
 intro bd4 db5 db6 db7 c71 hS c72 al8 hcq
 have bd5 : ev bd4 (.tmp 44) = vP c0 := al8 0 44 rfl rfl
 refine r_loadOne (a6) ty45 bd5 (hS.get (mR (mR mL))) rfl rfl ?_
 exact qn (.refl _) rfl hS rfl
 intro db8 db9 dc0 dc1 c73 hS al9 c74 hcq
 refine r_fieldAddr fld47_0 (evT (al9 3 rfl) x2) rfl ?_
 exact qn (.refl _) rfl hS rfl
 intro bd6 dc2 dc3 dc4 c75 hS c76 am0 hcq
 have bd7 : ev bd6 (.tmp 46) = vP b1 := am0 2 46 rfl rfl
 refine r_loadOne (s0) ty45 bd7 (hS.get (mR (mR (mR (mR (mR mL)))))) rfl rfl ?_
 exact qn (.refl _) rfl hS rfl
 intro dc5 dc6 dc7 dc8 c77 hS am1 c78 hcq
 refine r_move (vI a3) (evT (am1 8 rfl) x4) rfl ?_
 exact qn (.refl _) rfl hS rfl
 intro a77 dc9 dd0 dd1 c79 hS c80 z9 hcq
 have bd8 : ev a77 (.tmp 47) = s0 := z9 3 47 rfl rfl
 have bd9 : ev a77 (.tmp 48) = vI a3 := z9 4 48 rfl rfl
 refine r_indexAt sl45 rfl bd8 al5 bd9 (by omega) (by omega) rfl ?_
 exact qn (.refl _) rfl hS rfl
 intro be0 dd2 dd3 dd4 c81 hS c82 am2 hcq
 have be1 : ev be0 (.tmp 49) = Value.pointer (some ⟨q5, q6, none⟩) := am2 5 49 rfl rfl
 refine r_fieldAddr fld76_0 be1 rfl ?_
 exact qn (.refl _) rfl hS rfl
 intro be2 dd5 dd6 dd7 am3 hS c83 am4 hcq
 have q7 := am3.1 _ _ q7
 have be3 : ev be2 (.tmp 50) = Value.pointer (some ⟨q5, q6 + 0, none⟩) := am4 6 50 rfl rfl
 refine r_loadAgg (enc8 .u8 ((rd a0 a3).1)) ty70 be3 (hS.froz _ _ q7) rfl (sub_cells ([]) (enc8 .u8 ((rd a0 a3).1)) (([vI ((rd a0 a3).2)])) al6 (Nat.le_of_ble_eq_true rfl)) rfl ?_
 exact qn (.refl _) rfl hS rfl
 intro dd8 dd9 de0 de1 c84 hS am5 c85 hcq
 refine r_move (vI c2) (evT (am5 11 rfl) a74) rfl ?_
 exact qn (.refl _) rfl hS rfl
 intro a78 de2 de3 de4 c86 hS c87 a00 hcq
 have be4 : ev a78 (.tmp 51) = vA (enc8 .u8 ((rd a0 a3).1)) := a00 7 51 rfl rfl
 have be5 : ev a78 (.tmp 52) = vI c2 := a00 8 52 rfl rfl
 refine r_build (enc8 .u8 ((rd a0 a3).1) ++ [vI c2]) bu76 (parts2 be4 be5) (fill_cons rfl rfl rfl (Nat.le_of_ble_eq_true rfl) (fill_cons rfl rfl rfl (Nat.le_of_ble_eq_true rfl) (fill_nil rfl))) rfl ?_
 exact qn (.refl _) rfl hS rfl
 intro be6 de5 de6 de7 c88 hS c89 am6 hcq
 have be7 : ev be6 (.tmp 53) = vA (enc8 .u8 ((rd a0 a3).1) ++ [vI c2]) := am6 9 53 rfl rfl
 refine r_lit (τ := yT) sl45 ze76 rfl [vA (enc8 .u8 ((rd a0 a3).1) ++ [vI c2])] [((rd a0 a3).1, c2)] rfl rfl (parts1 be7) (rel1 ⟨_, _, rfl, rfl, rfl⟩) (by decide) (by decide) hS rfl ?_
 intro de8 de9 df0 am7 hS am8
 exact qn am7 rfl hS am8
 intro a79 be8 n0 l4 hS f6 a01 hcq
 have hS : St n0 be8 (a8 ++ ([(c0, cA ([a6]) 47)] ++ ([(b7, cA ([vN]) 47)] ++ ([(b4, cA ([s1]) 47)] ++ ([(b1, cA ([s0]) 47)] ++ L))))) := hS
 have hsub := hsub.trans l4
 have b3 := b3.mono l4
 have b0 := b0.mono l4
 have a5 := a5.mono l4
 have a80 := evT (f6 7 rfl) x3
 have be9 : ev a79 (.tmp 45) = a6 := a01 1 45 (by decide) rfl
 obtain ⟨bf0, a81⟩ : ∃ v, ev a79 (.tmp 54) = v := ⟨_, rfl⟩
 have am9 : RdSl yT n0 bf0 ([((rd a0 a3).1, c2)]) := a81 ▸ (a01 10 54 (by decide) rfl)
 obtain ⟨an0, a9⟩ := gd a9
 refine r_append (τ := yT) ap45 rfl (by exact be9) (by exact a81) a5 hS am9 an0 rfl ?_
 intro q8 bf1 n1 a02 hS
 refine r_fieldAddr fld47_0 (by exact a80) rfl ?_
 have hS : St n0 bf1 ([(c0, cA ([a6]) 47)] ++ (n1 ++ ([(b7, cA ([vN]) 47)] ++ ([(b4, cA ([s1]) 47)] ++ ([(b1, cA ([s0]) 47)] ++ L))))) := hS.perm (perm1 (A1 := n1))
 refine r_store1 (v := q8) (cs := ([a6]).toArray) (cs' := ([q8]).toArray) ty45 rfl rfl hS a02.isOne rfl (Nat.le_of_ble_eq_true rfl) rfl ?_
 intro bf2 hS
 have hS : St n0 bf2 (n1 ++ ([(c0, cA ([q8]) 47)] ++ ([(b7, cA ([vN]) 47)] ++ ([(b4, cA ([s1]) 47)] ++ ([(b1, cA ([s0]) 47)] ++ L))))) := hS.perm (perm1 (A1 := n1)).symm
 refine reg_nil ?_
 exact a76 _ _ ⟨(a7 ++ [((rd a0 a3).1, c2)]), n0, n1, q8, a9, hsub, hS, a02, b0, b3, (evT (f6 2 rfl) a70), (evT (f6 3 rfl) x2), (evT (f6 4 rfl) a71), (evT (f6 6 rfl) a72), a80, (evT (f6 8 rfl) x4), (evT (f6 9 rfl) a73)⟩
 intro a82
 have c90 := b0.bound
 by_cases b6 : a3 = (a0.length : Int)
 rw [if_pos b6] at b9
 refine run_draw 21 (tabL [(102, MP.eq (vI a3)), (103, MP.eq (vP b1)), (104, MP.eq (s0)), (105, MP.eq (vI (a0.length : Int))), (106, MP.eq (Value.bool (decide (a3 = (a0.length : Int))))), (107, MP.eq (Value.bool (decide (a3 = (a0.length : Int))))), (108, MP.eq (undef)), (109, MP.eq (undef)), (110, MP.eq (undef)), (111, MP.eq (undef)), (112, MP.eq (undef)), (113, MP.eq (undef)), (114, MP.eq (undef)), (115, MP.eq (undef)), (116, MP.eq (undef)), (117, MP.eq (undef)), (118, MP.eq (undef)), (119, MP.eq (undef)), (120, MP.eq (undef)), (121, MP.eq (Value.bool true)), (101, MP.eq (Value.bool true))]) [] mixed rfl rfl rfl hS (hop_q rfl ?_ (hop_q rfl ?_ (hop_q rfl ?_ (hop_q rfl ?_ (hop_q rfl ?_ (hop_q rfl ?_ (hop_q rfl ?_ (hop_q rfl ?_ (hop_q rfl ?_ (hop_q rfl ?_ (hop_q rfl ?_ (hop_q rfl ?_ (hop_q rfl ?_ (hop_q rfl ?_ (hop_q rfl ?_ (hop_q rfl ?_ (hop_q rfl ?_ (hop_q rfl ?_ (hop_q rfl ?_ (hop_q rfl ?_ (hop_q rfl ?_ hop_nil))))))))))))))))))))) ?_
 intro bf3 bf4 bf5 bf6 an1 hS q9 an2 hcq
 have x5 := evT (q9 8 rfl) d8
 refine r_move (vI a3) x5 rfl ?_
 exact qn (.refl _) rfl hS rfl
 intro bf7 bf8 bf9 bg0 an3 hS r0 an4 hcq
 have x6 := evT (r0 3 rfl) d7
 refine r_fieldAddr fld47_0 x6 rfl ?_
 exact qn (.refl _) rfl hS rfl
 intro x7 bg1 bg2 bg3 an5 hS an6 r1 hcq
 have x8 : ev x7 (.tmp 103) = vP b1 := r1 1 103 rfl rfl
 refine r_loadOne (s0) ty45 x8 (hS.get (mR (mR (mR (mR (mR mL)))))) rfl rfl ?_
 exact qn (.refl _) rfl hS rfl
 intro x9 bg4 bg5 bg6 r2 hS an7 r3 hcq
 have b0 := b0.mono r2
 have y0 : ev x9 (.tmp 104) = s0 := r3 2 104 rfl rfl
 refine r_lenRd sl45 y0 b0 rfl ?_
 exact qn (.refl _) rfl hS rfl
 intro n2 bg7 bg8 bg9 an8 hS an9 h9 hcq
 have y1 : ev n2 (.tmp 102) = vI a3 := h9 0 102 rfl rfl
 have y2 : ev n2 (.tmp 105) = vI (a0.length : Int) := h9 3 105 rfl rfl
 refine r_eql (k := .i64) (a := a3) (b := (a0.length : Int)) y1 y2 rfl ?_
 exact qn (.refl _) rfl hS rfl
 intro y3 bh0 bh1 bh2 ao0 hS ao1 r4 hcq
 have y4 : ev y3 (.tmp 106) = Value.bool (decide (a3 = (a0.length : Int))) := r4 4 106 rfl rfl
 refine r_move (Value.bool (decide (a3 = (a0.length : Int)))) y4 rfl ?_
 exact qn (.refl _) rfl hS rfl
 intro bh3 df1 df2 df3 c91 hS c92 ao2 hcq
 have bh4 : ev bh3 (.tmp 107) = Value.bool (decide (a3 = (a0.length : Int))) := ao2 5 107 rfl rfl
 refine reg_unguard rfl rfl (Eq.trans bh4 (congrArg Value.bool (decide_eq_true b6))) rfl rfl rfl ?_
 exact qn (.refl _) rfl hS rfl
 intro bh5 df4 df5 df6 c93 hS c94 ao3 hcq
 have bh6 : ev bh5 (.tmp 107) = Value.bool (decide (a3 = (a0.length : Int))) := ao3 5 107 rfl rfl
 refine reg_unguard rfl rfl (Eq.trans bh6 (congrArg Value.bool (decide_eq_true b6))) rfl rfl rfl ?_
 exact qn (.refl _) rfl hS rfl
 intro bh7 df7 df8 df9 c95 hS c96 ao4 hcq
 have bh8 : ev bh7 (.tmp 107) = Value.bool (decide (a3 = (a0.length : Int))) := ao4 5 107 rfl rfl
 refine reg_unguard rfl rfl (Eq.trans bh8 (congrArg Value.bool (decide_eq_true b6))) rfl rfl rfl ?_
 exact qn (.refl _) rfl hS rfl
 intro bh9 dg0 dg1 dg2 c97 hS c98 ao5 hcq
 have bi0 : ev bh9 (.tmp 107) = Value.bool (decide (a3 = (a0.length : Int))) := ao5 5 107 rfl rfl
 refine reg_unguard rfl rfl (Eq.trans bi0 (congrArg Value.bool (decide_eq_true b6))) rfl rfl rfl ?_
 exact qn (.refl _) rfl hS rfl
 intro bi1 dg3 dg4 dg5 c99 hS ca0 ao6 hcq
 have bi2 : ev bi1 (.tmp 107) = Value.bool (decide (a3 = (a0.length : Int))) := ao6 5 107 rfl rfl
 refine reg_unguard rfl rfl (Eq.trans bi2 (congrArg Value.bool (decide_eq_true b6))) rfl rfl rfl ?_
 exact qn (.refl _) rfl hS rfl
 intro bi3 dg6 dg7 dg8 ca1 hS ca2 ao7 hcq
 have bi4 : ev bi3 (.tmp 107) = Value.bool (decide (a3 = (a0.length : Int))) := ao7 5 107 rfl rfl
 refine reg_unguard rfl rfl (Eq.trans bi4 (congrArg Value.bool (decide_eq_true b6))) rfl rfl rfl ?_
 exact qn (.refl _) rfl hS rfl
 intro bi5 dg9 dh0 dh1 ca3 hS ca4 ao8 hcq
 have bi6 : ev bi5 (.tmp 107) = Value.bool (decide (a3 = (a0.length : Int))) := ao8 5 107 rfl rfl
 refine reg_unguard rfl rfl (Eq.trans bi6 (congrArg Value.bool (decide_eq_true b6))) rfl rfl rfl ?_
 exact qn (.refl _) rfl hS rfl
 intro bi7 dh2 dh3 dh4 ca5 hS ca6 ao9 hcq
 have bi8 : ev bi7 (.tmp 107) = Value.bool (decide (a3 = (a0.length : Int))) := ao9 5 107 rfl rfl
 refine reg_unguard rfl rfl (Eq.trans bi8 (congrArg Value.bool (decide_eq_true b6))) rfl rfl rfl ?_
 exact qn (.refl _) rfl hS rfl
 intro bi9 dh5 dh6 dh7 ca7 hS ca8 ap0 hcq
 have bj0 : ev bi9 (.tmp 107) = Value.bool (decide (a3 = (a0.length : Int))) := ap0 5 107 rfl rfl
 refine reg_unguard rfl rfl (Eq.trans bj0 (congrArg Value.bool (decide_eq_true b6))) rfl rfl rfl ?_
 exact qn (.refl _) rfl hS rfl
 intro bj1 dh8 dh9 di0 ca9 hS cb0 ap1 hcq
 have bj2 : ev bj1 (.tmp 107) = Value.bool (decide (a3 = (a0.length : Int))) := ap1 5 107 rfl rfl
 refine reg_unguard rfl rfl (Eq.trans bj2 (congrArg Value.bool (decide_eq_true b6))) rfl rfl rfl ?_
 exact qn (.refl _) rfl hS rfl
 intro bj3 di1 di2 di3 cb1 hS cb2 ap2 hcq
 have bj4 : ev bj3 (.tmp 107) = Value.bool (decide (a3 = (a0.length : Int))) := ap2 5 107 rfl rfl
 refine reg_unguard rfl rfl (Eq.trans bj4 (congrArg Value.bool (decide_eq_true b6))) rfl rfl rfl ?_
 exact qn (.refl _) rfl hS rfl
 intro bj5 di4 di5 di6 cb3 hS cb4 ap3 hcq
 have bj6 : ev bj5 (.tmp 107) = Value.bool (decide (a3 = (a0.length : Int))) := ap3 5 107 rfl rfl
 refine reg_unguard rfl rfl (Eq.trans bj6 (congrArg Value.bool (decide_eq_true b6))) rfl rfl rfl ?_
 exact qn (.refl _) rfl hS rfl
 intro bj7 di7 di8 di9 cb5 hS cb6 ap4 hcq
 have bj8 : ev bj7 (.tmp 107) = Value.bool (decide (a3 = (a0.length : Int))) := ap4 5 107 rfl rfl
 refine reg_unguard rfl rfl (Eq.trans bj8 (congrArg Value.bool (decide_eq_true b6))) rfl rfl rfl ?_
 exact qn (.refl _) rfl hS rfl
 intro a83 dj0 dj1 dj2 cb7 hS cb8 a03 hcq
 have bj9 : ev a83 (.tmp 107) = Value.bool (decide (a3 = (a0.length : Int))) := a03 5 107 rfl rfl
 have dj3 : ev a83 (.tmp 120) = undef := a03 18 120 rfl rfl
 refine r_pick (t := true) (Value.bool true) (Eq.trans bj9 (congrArg Value.bool (decide_eq_true b6))) ((if_pos rfl).trans rfl) rfl ?_
 exact qn (.refl _) rfl hS rfl
 intro bk0 dj4 dj5 dj6 cb9 hS cc0 ap5 hcq
 have bk1 : ev bk0 (.tmp 121) = Value.bool true := ap5 19 121 rfl rfl
 refine r_assign (Value.bool true) bk1 rfl ?_
 exact qn (.refl _) rfl hS rfl
 intro bk2 bk3 a84 l5 hS f7 ap6 hcq
 have hS : St a84 bk3 (a8 ++ ([(c0, cA ([a6]) 47)] ++ ([(b7, cA ([vN]) 47)] ++ ([(b4, cA ([s1]) 47)] ++ ([(b1, cA ([s0]) 47)] ++ L))))) := hS
 have hsub := hsub.trans l5
 have b3 := b3.mono l5
 have b0 := b0.mono l5
 have a5 := a5.mono l5
 have bk4 : ev bk2 (.tmp 101) = Value.bool true := ap6 20 101 (by decide) rfl
 refine reg_nil ?_
 exact a82 _ _ ⟨true, a84, b9, hsub, hS, b0, b3, a5, (evT (f7 2 rfl) k3), (evT (f7 3 rfl) d7), (evT (f7 4 rfl) h1), (evT (f7 6 rfl) k4), (evT (f7 7 rfl) h2), (evT (f7 8 rfl) d8), (evT (f7 9 rfl) h3), bk4⟩
 rw [if_neg b6] at b9
 obtain ⟨cc1, b9⟩ := gd b9
 obtain ⟨cc2, b9⟩ := gd b9
 obtain ⟨r5, r6, cc3, dj7, _, ap7, r7, ⟨_, _, rfl, rfl, rfl⟩, ap8⟩ := b3.elem (i := a4) (by omega) (by omega)
 obtain ⟨cc4, b9⟩ := gd b9
 obtain ⟨cc5, b9⟩ := gd b9
 obtain ⟨l6, l7, bo0, cc6, _, a85, n3, ⟨_, _, rfl, rfl, rfl⟩, a86⟩ := b0.elem (i := a3) (by omega) (by omega)
 obtain ⟨d1, a87, b9⟩ := bind_some b9
 refine run_draw 21 (tabL [(102, MP.eq (vI a3)), (103, MP.eq (vP b1)), (104, MP.eq (s0)), (105, MP.eq (vI (a0.length : Int))), (106, MP.eq (Value.bool (decide (a3 = (a0.length : Int))))), (107, MP.eq (Value.bool (decide (a3 = (a0.length : Int))))), (108, MP.eq (vP b4)), (109, MP.eq (s1)), (110, MP.eq (vI a4)), (111, MP.eq (Value.pointer (some ⟨r5, r6, none⟩))), (112, MP.eq (Value.pointer (some ⟨r5, r6 + 0, none⟩))), (113, MP.eq (vA (enc8 .u8 ((rd a1 a4).1)))), (114, MP.eq (vP b1)), (115, MP.eq (s0)), (116, MP.eq (vI a3)), (117, MP.eq (Value.pointer (some ⟨l6, l7, none⟩))), (118, MP.eq (Value.pointer (some ⟨l6, l7 + 0, none⟩))), (119, MP.eq (vA (enc8 .u8 ((rd a0 a3).1)))), (120, MP.eq (Value.bool d1)), (121, MP.eq (Value.bool d1)), (101, MP.eq (Value.bool d1))]) [] mixed rfl rfl rfl hS (hop_q rfl ?_ (hop_q rfl ?_ (hop_q rfl ?_ (hop_q rfl ?_ (hop_q rfl ?_ (hop_q rfl ?_ (hop_q rfl ?_ (hop_q rfl ?_ (hop_q rfl ?_ (hop_q rfl ?_ (hop_q rfl ?_ (hop_q rfl ?_ (hop_q rfl ?_ (hop_q rfl ?_ (hop_q rfl ?_ (hop_q rfl ?_ (hop_q rfl ?_ (hop_q rfl ?_ (hop_q rfl ?_ (hop_q rfl ?_ (hop_q rfl ?_ hop_nil))))))))))))))))))))) ?_
 intro bf3 bf4 bf5 bf6 an1 hS q9 an2 hcq
 have x5 := evT (q9 8 rfl) d8
 refine r_move (vI a3) x5 rfl ?_
 exact qn (.refl _) rfl hS rfl
 intro bf7 bf8 bf9 bg0 an3 hS r0 an4 hcq
 have x6 := evT (r0 3 rfl) d7
 refine r_fieldAddr fld47_0 x6 rfl ?_
 exact qn (.refl _) rfl hS rfl
 intro x7 bg1 bg2 bg3 an5 hS an6 r1 hcq
 have x8 : ev x7 (.tmp 103) = vP b1 := r1 1 103 rfl rfl
 refine r_loadOne (s0) ty45 x8 (hS.get (mR (mR (mR (mR (mR mL)))))) rfl rfl ?_
 exact qn (.refl _) rfl hS rfl
 intro x9 bg4 bg5 bg6 r2 hS an7 r3 hcq
 have b0 := b0.mono r2
 have y0 : ev x9 (.tmp 104) = s0 := r3 2 104 rfl rfl
 refine r_lenRd sl45 y0 b0 rfl ?_
 exact qn (.refl _) rfl hS rfl
 intro n2 bg7 bg8 bg9 an8 hS an9 h9 hcq
 have y1 : ev n2 (.tmp 102) = vI a3 := h9 0 102 rfl rfl
 have y2 : ev n2 (.tmp 105) = vI (a0.length : Int) := h9 3 105 rfl rfl
 refine r_eql (k := .i64) (a := a3) (b := (a0.length : Int)) y1 y2 rfl ?_
 exact qn (.refl _) rfl hS rfl
 intro y3 bh0 bh1 bh2 ao0 hS ao1 r4 hcq
 have y4 : ev y3 (.tmp 106) = Value.bool (decide (a3 = (a0.length : Int))) := r4 4 106 rfl rfl
 refine r_move (Value.bool (decide (a3 = (a0.length : Int)))) y4 rfl ?_
 exact qn (.refl _) rfl hS rfl
 intro bk5 dj8 dj9 dk0 cc7 hS ap9 aq0 hcq
 have bk6 : ev bk5 (.tmp 107) = Value.bool (decide (a3 = (a0.length : Int))) := aq0 5 107 rfl rfl
 refine reg_guard rfl rfl (Eq.trans bk6 (congrArg Value.bool (decide_eq_false b6))) (r_fieldAddr fld47_0 (evT (ap9 4 rfl) h1) rfl ?_)
 exact qn (.refl _) rfl hS rfl
 intro a88 dk1 dk2 dk3 cc8 hS cc9 a04 hcq
 have bk7 : ev a88 (.tmp 107) = Value.bool (decide (a3 = (a0.length : Int))) := a04 5 107 rfl rfl
 have bk8 : ev a88 (.tmp 108) = vP b4 := a04 6 108 rfl rfl
 refine reg_guard rfl rfl (Eq.trans bk7 (congrArg Value.bool (decide_eq_false b6))) ?_
 refine r_loadOne (s1) ty45 bk8 (hS.get (mR (mR (mR (mR mL))))) rfl rfl ?_
 exact qn (.refl _) rfl hS rfl
 intro bk9 dk4 dk5 dk6 cd0 hS aq1 aq2 hcq
 have bl0 : ev bk9 (.tmp 107) = Value.bool (decide (a3 = (a0.length : Int))) := aq2 5 107 rfl rfl
 refine reg_guard rfl rfl (Eq.trans bl0 (congrArg Value.bool (decide_eq_false b6))) (r_move (vI a4) (evT (aq1 9 rfl) h3) rfl ?_)
 exact qn (.refl _) rfl hS rfl
 intro y5 dk7 dk8 dk9 cd1 hS cd2 r8 hcq
 have bl1 : ev y5 (.tmp 107) = Value.bool (decide (a3 = (a0.length : Int))) := r8 5 107 rfl rfl
 have bl2 : ev y5 (.tmp 109) = s1 := r8 7 109 rfl rfl
 have bl3 : ev y5 (.tmp 110) = vI a4 := r8 8 110 rfl rfl
 refine reg_guard rfl rfl (Eq.trans bl1 (congrArg Value.bool (decide_eq_false b6))) ?_
 refine r_indexAt sl45 rfl bl2 ap7 bl3 (by omega) (by omega) rfl ?_
 exact qn (.refl _) rfl hS rfl
 intro a89 dl0 dl1 dl2 cd3 hS cd4 a05 hcq
 have bl4 : ev a89 (.tmp 107) = Value.bool (decide (a3 = (a0.length : Int))) := a05 5 107 rfl rfl
 have bl5 : ev a89 (.tmp 111) = Value.pointer (some ⟨r5, r6, none⟩) := a05 9 111 rfl rfl
 refine reg_guard rfl rfl (Eq.trans bl4 (congrArg Value.bool (decide_eq_false b6))) (r_fieldAddr fld76_0 bl5 rfl ?_)
 exact qn (.refl _) rfl hS rfl
 intro a90 dl3 dl4 dl5 aq3 hS cd5 a06 hcq
 have r7 := aq3.1 _ _ r7
 have bl6 : ev a90 (.tmp 107) = Value.bool (decide (a3 = (a0.length : Int))) := a06 5 107 rfl rfl
 have bl7 : ev a90 (.tmp 112) = Value.pointer (some ⟨r5, r6 + 0, none⟩) := a06 10 112 rfl rfl
 refine reg_guard rfl rfl (Eq.trans bl6 (congrArg Value.bool (decide_eq_false b6))) ?_
 refine r_loadAgg (enc8 .u8 ((rd a1 a4).1)) ty70 bl7 (hS.froz _ _ r7) rfl (sub_cells ([]) (enc8 .u8 ((rd a1 a4).1)) (([vI ((rd a1 a4).2)])) ap8 (Nat.le_of_ble_eq_true rfl)) rfl ?_
 exact qn (.refl _) rfl hS rfl
 intro bl8 dl6 dl7 dl8 cd6 hS aq4 aq5 hcq
 have bl9 : ev bl8 (.tmp 107) = Value.bool (decide (a3 = (a0.length : Int))) := aq5 5 107 rfl rfl
 refine reg_guard rfl rfl (Eq.trans bl9 (congrArg Value.bool (decide_eq_false b6))) (r_fieldAddr fld47_0 (evT (aq4 3 rfl) d7) rfl ?_)
 exact qn (.refl _) rfl hS rfl
 intro a91 dl9 dm0 dm1 cd7 hS cd8 a07 hcq
 have bm0 : ev a91 (.tmp 107) = Value.bool (decide (a3 = (a0.length : Int))) := a07 5 107 rfl rfl
 have bm1 : ev a91 (.tmp 114) = vP b1 := a07 12 114 rfl rfl
 refine reg_guard rfl rfl (Eq.trans bm0 (congrArg Value.bool (decide_eq_false b6))) ?_
 refine r_loadOne (s0) ty45 bm1 (hS.get (mR (mR (mR (mR (mR mL)))))) rfl rfl ?_
 exact qn (.refl _) rfl hS rfl
 intro bm2 dm2 dm3 dm4 cd9 hS aq6 aq7 hcq
 have bm3 : ev bm2 (.tmp 107) = Value.bool (decide (a3 = (a0.length : Int))) := aq7 5 107 rfl rfl
 refine reg_guard rfl rfl (Eq.trans bm3 (congrArg Value.bool (decide_eq_false b6))) (r_move (vI a3) (evT (aq6 8 rfl) d8) rfl ?_)
 exact qn (.refl _) rfl hS rfl
 intro y6 dm5 dm6 dm7 ce0 hS ce1 r9 hcq
 have bm4 : ev y6 (.tmp 107) = Value.bool (decide (a3 = (a0.length : Int))) := r9 5 107 rfl rfl
 have aq8 : ev y6 (.tmp 115) = s0 := r9 13 115 rfl rfl
 have aq9 : ev y6 (.tmp 116) = vI a3 := r9 14 116 rfl rfl
 refine reg_guard rfl rfl (Eq.trans bm4 (congrArg Value.bool (decide_eq_false b6))) ?_
 refine r_indexAt sl45 rfl aq8 a85 aq9 (by omega) (by omega) rfl ?_
 exact qn (.refl _) rfl hS rfl
 intro a08 ce2 ce3 ce4 bo1 hS bo2 u5 hcq
 have ar0 : ev a08 (.tmp 107) = Value.bool (decide (a3 = (a0.length : Int))) := u5 5 107 rfl rfl
 have ar1 : ev a08 (.tmp 117) = Value.pointer (some ⟨l6, l7, none⟩) := u5 15 117 rfl rfl
 refine reg_guard rfl rfl (Eq.trans ar0 (congrArg Value.bool (decide_eq_false b6))) (r_fieldAddr fld76_0 ar1 rfl ?_)
 exact qn (.refl _) rfl hS rfl
 intro a09 ce5 ce6 ce7 a92 hS bo3 u6 hcq
 have n3 := a92.1 _ _ n3
 have ar2 : ev a09 (.tmp 107) = Value.bool (decide (a3 = (a0.length : Int))) := u6 5 107 rfl rfl
 have ar3 : ev a09 (.tmp 118) = Value.pointer (some ⟨l6, l7 + 0, none⟩) := u6 16 118 rfl rfl
 refine reg_guard rfl rfl (Eq.trans ar2 (congrArg Value.bool (decide_eq_false b6))) ?_
 refine r_loadAgg (enc8 .u8 ((rd a0 a3).1)) ty70 ar3 (hS.froz _ _ n3) rfl (sub_cells ([]) (enc8 .u8 ((rd a0 a3).1)) (([vI ((rd a0 a3).2)])) a86 (Nat.le_of_ble_eq_true rfl)) rfl ?_
 exact qn (.refl _) rfl hS rfl
 intro s2 ce8 ce9 cf0 bo4 hS bo5 n4 hcq
 have ar4 : ev s2 (.tmp 107) = Value.bool (decide (a3 = (a0.length : Int))) := n4 5 107 rfl rfl
 have ar5 : ev s2 (.tmp 113) = vA (enc8 .u8 ((rd a1 a4).1)) := n4 11 113 rfl rfl
 have ar6 : ev s2 (.tmp 119) = vA (enc8 .u8 ((rd a0 a3).1)) := n4 17 119 rfl rfl
 refine reg_guard rfl rfl (Eq.trans ar4 (congrArg Value.bool (decide_eq_false b6))) ?_
 refine r_callFn Tryz.call203 (args2 ar5 ar6) rfl (g_spec_l01Before_ok a87  hS) ?_
 rintro cf1 cf2 ⟨_, cf3, rfl, a93, hS, rfl⟩
 refine ⟨_, rfl, ?_⟩
 exact qn a93 rfl hS rfl
 intro a10 cf4 cf5 cf6 bo6 hS bo7 u7 hcq
 have ar7 : ev a10 (.tmp 107) = Value.bool (decide (a3 = (a0.length : Int))) := u7 5 107 rfl rfl
 have ar8 : ev a10 (.tmp 120) = Value.bool d1 := u7 18 120 rfl rfl
 refine r_pick (t := false) (Value.bool d1) (Eq.trans ar7 (congrArg Value.bool (decide_eq_false b6))) ((if_neg Bool.false_ne_true).trans ar8) rfl ?_
 exact qn (.refl _) rfl hS rfl
 intro ar9 cf7 cf8 cf9 bo8 hS bo9 a94 hcq
 have as0 : ev ar9 (.tmp 121) = Value.bool d1 := a94 19 121 rfl rfl
 refine r_assign (Value.bool d1) as0 rfl ?_
 exact qn (.refl _) rfl hS rfl
 intro as1 as2 a11 i0 hS e4 a95 hcq
 have hS : St a11 as2 (a8 ++ ([(c0, cA ([a6]) 47)] ++ ([(b7, cA ([vN]) 47)] ++ ([(b4, cA ([s1]) 47)] ++ ([(b1, cA ([s0]) 47)] ++ L))))) := hS
 have hsub := hsub.trans i0
 have b3 := b3.mono i0
 have b0 := b0.mono i0
 have a5 := a5.mono i0
 have as3 : ev as1 (.tmp 101) = Value.bool d1 := a95 20 101 (by decide) rfl
 refine reg_nil ?_
 exact a82 _ _ ⟨d1, a11, b9, hsub, hS, b0, b3, a5, (evT (e4 2 rfl) k3), (evT (e4 3 rfl) d7), (evT (e4 4 rfl) h1), (evT (e4 6 rfl) k4), (evT (e4 7 rfl) h2), (evT (e4 8 rfl) d8), (evT (e4 9 rfl) h3), as3⟩
 intro y7
 have bp0 := b3.bound
 by_cases b5 : a4 = (a1.length : Int)
 rw [if_pos b5] at c1
 refine run_draw 28 (tabL [(62, MP.eq (vI a4)), (63, MP.eq (vP b4)), (64, MP.eq (s1)), (65, MP.eq (vI (a1.length : Int))), (66, MP.eq (Value.bool (decide (a4 = (a1.length : Int))))), (67, MP.eq (Value.bool (decide (a4 = (a1.length : Int))))), (68, MP.eq (undef)), (69, MP.eq (undef)), (70, MP.eq (undef)), (71, MP.eq (undef)), (72, MP.eq (undef)), (73, MP.eq (undef)), (74, MP.eq (undef)), (75, MP.eq (undef)), (76, MP.eq (undef)), (77, MP.eq (undef)), (78, MP.eq (undef)), (79, MP.eq (undef)), (80, MP.eq (undef)), (81, MP.eq (undef)), (82, MP.eq (undef)), (83, MP.eq (undef)), (84, MP.eq (undef)), (85, MP.eq (undef)), (86, MP.eq (undef)), (87, MP.eq (undef)), (88, MP.eq (Value.bool true)), (61, MP.eq (Value.bool true))]) [] mixed rfl rfl rfl hS (hop_q rfl ?_ (hop_q rfl ?_ (hop_q rfl ?_ (hop_q rfl ?_ (hop_q rfl ?_ (hop_q rfl ?_ (hop_q rfl ?_ (hop_q rfl ?_ (hop_q rfl ?_ (hop_q rfl ?_ (hop_q rfl ?_ (hop_q rfl ?_ (hop_q rfl ?_ (hop_q rfl ?_ (hop_q rfl ?_ (hop_q rfl ?_ (hop_q rfl ?_ (hop_q rfl ?_ (hop_q rfl ?_ (hop_q rfl ?_ (hop_q rfl ?_ (hop_q rfl ?_ (hop_q rfl ?_ (hop_q rfl ?_ (hop_q rfl ?_ (hop_q rfl ?_ (hop_q rfl ?_ (hop_q rfl ?_ hop_nil)))))))))))))))))))))))))))) ?_
 intro a12 a13 a14 a15 u8 hS f9 u9 hcq
 have i1 := evT (f9 9 rfl) d6
 refine r_move (vI a4) i1 rfl ?_
 exact qn (.refl _) rfl hS rfl
 intro a16 a17 a18 a19 v0 hS g0 v1 hcq
 have i2 := evT (g0 4 rfl) d5
 refine r_fieldAddr fld47_0 i2 rfl ?_
 exact qn (.refl _) rfl hS rfl
 intro i3 a20 a21 a22 v2 hS v3 g1 hcq
 have i4 : ev i3 (.tmp 63) = vP b4 := g1 1 63 rfl rfl
 refine r_loadOne (s1) ty45 i4 (hS.get (mR (mR (mR (mR mL))))) rfl rfl ?_
 exact qn (.refl _) rfl hS rfl
 intro i5 a23 a24 a25 g2 hS v4 g3 hcq
 have b3 := b3.mono g2
 have i6 : ev i5 (.tmp 64) = s1 := g3 2 64 rfl rfl
 refine r_lenRd sl45 i6 b3 rfl ?_
 exact qn (.refl _) rfl hS rfl
 intro f0 a26 a27 a28 v5 hS v6 d9 hcq
 have i7 : ev f0 (.tmp 62) = vI a4 := d9 0 62 rfl rfl
 have i8 : ev f0 (.tmp 65) = vI (a1.length : Int) := d9 3 65 rfl rfl
 refine r_eql (k := .i64) (a := a4) (b := (a1.length : Int)) i7 i8 rfl ?_
 exact qn (.refl _) rfl hS rfl
 intro i9 a29 a30 a31 v7 hS v8 g4 hcq
 have j0 : ev i9 (.tmp 66) = Value.bool (decide (a4 = (a1.length : Int))) := g4 4 66 rfl rfl
 refine r_move (Value.bool (decide (a4 = (a1.length : Int)))) j0 rfl ?_
 exact qn (.refl _) rfl hS rfl
 intro as4 cg0 cg1 cg2 bp1 hS bp2 a96 hcq
 have as5 : ev as4 (.tmp 67) = Value.bool (decide (a4 = (a1.length : Int))) := a96 5 67 rfl rfl
 refine reg_unguard rfl rfl (Eq.trans as5 (congrArg Value.bool (decide_eq_true b5))) rfl rfl rfl ?_
 exact qn (.refl _) rfl hS rfl
 intro as6 cg3 cg4 cg5 bp3 hS bp4 a97 hcq
 have as7 : ev as6 (.tmp 67) = Value.bool (decide (a4 = (a1.length : Int))) := a97 5 67 rfl rfl
 refine reg_unguard rfl rfl (Eq.trans as7 (congrArg Value.bool (decide_eq_true b5))) rfl rfl rfl ?_
 exact qn (.refl _) rfl hS rfl
 intro as8 cg6 cg7 cg8 bp5 hS bp6 a98 hcq
 have as9 : ev as8 (.tmp 67) = Value.bool (decide (a4 = (a1.length : Int))) := a98 5 67 rfl rfl
 refine reg_unguard rfl rfl (Eq.trans as9 (congrArg Value.bool (decide_eq_true b5))) rfl rfl rfl ?_
 exact qn (.refl _) rfl hS rfl
 intro at0 cg9 ch0 ch1 bp7 hS bp8 a99 hcq
 have at1 : ev at0 (.tmp 67) = Value.bool (decide (a4 = (a1.length : Int))) := a99 5 67 rfl rfl
 refine reg_unguard rfl rfl (Eq.trans at1 (congrArg Value.bool (decide_eq_true b5))) rfl rfl rfl ?_
 exact qn (.refl _) rfl hS rfl
 intro at2 ch2 ch3 ch4 bp9 hS bq0 aa0 hcq
 have at3 : ev at2 (.tmp 67) = Value.bool (decide (a4 = (a1.length : Int))) := aa0 5 67 rfl rfl
 refine reg_unguard rfl rfl (Eq.trans at3 (congrArg Value.bool (decide_eq_true b5))) rfl rfl rfl ?_
 exact qn (.refl _) rfl hS rfl
 intro at4 ch5 ch6 ch7 bq1 hS bq2 aa1 hcq
 have at5 : ev at4 (.tmp 67) = Value.bool (decide (a4 = (a1.length : Int))) := aa1 5 67 rfl rfl
 refine reg_unguard rfl rfl (Eq.trans at5 (congrArg Value.bool (decide_eq_true b5))) rfl rfl rfl ?_
 exact qn (.refl _) rfl hS rfl
 intro at6 ch8 ch9 ci0 bq3 hS bq4 aa2 hcq
 have at7 : ev at6 (.tmp 73) = undef := aa2 11 73 rfl rfl
 refine reg_undef rfl rfl at7 rfl rfl ?_
 exact qn (.refl _) rfl hS rfl
 intro at8 ci1 ci2 ci3 bq5 hS bq6 aa3 hcq
 have at9 : ev at8 (.tmp 73) = undef := aa3 11 73 rfl rfl
 refine reg_undef rfl rfl at9 rfl rfl ?_
 exact qn (.refl _) rfl hS rfl
 intro au0 ci4 ci5 ci6 bq7 hS bq8 aa4 hcq
 have au1 : ev au0 (.tmp 73) = undef := aa4 11 73 rfl rfl
 refine reg_undef rfl rfl au1 rfl rfl ?_
 exact qn (.refl _) rfl hS rfl
 intro au2 ci7 ci8 ci9 bq9 hS br0 aa5 hcq
 have au3 : ev au2 (.tmp 73) = undef := aa5 11 73 rfl rfl
 refine reg_undef rfl rfl au3 rfl rfl ?_
 exact qn (.refl _) rfl hS rfl
 intro au4 cj0 cj1 cj2 br1 hS br2 aa6 hcq
 have au5 : ev au4 (.tmp 73) = undef := aa6 11 73 rfl rfl
 refine reg_undef rfl rfl au5 rfl rfl ?_
 exact qn (.refl _) rfl hS rfl
 intro au6 cj3 cj4 cj5 br3 hS br4 aa7 hcq
 have au7 : ev au6 (.tmp 73) = undef := aa7 11 73 rfl rfl
 refine reg_undef rfl rfl au7 rfl rfl ?_
 exact qn (.refl _) rfl hS rfl
 intro au8 cj6 cj7 cj8 br5 hS br6 aa8 hcq
 have au9 : ev au8 (.tmp 73) = undef := aa8 11 73 rfl rfl
 refine reg_undef rfl rfl au9 rfl rfl ?_
 exact qn (.refl _) rfl hS rfl
 intro av0 cj9 ck0 ck1 br7 hS br8 aa9 hcq
 have av1 : ev av0 (.tmp 73) = undef := aa9 11 73 rfl rfl
 refine reg_undef rfl rfl av1 rfl rfl ?_
 exact qn (.refl _) rfl hS rfl
 intro av2 ck2 ck3 ck4 br9 hS bs0 ab0 hcq
 have av3 : ev av2 (.tmp 73) = undef := ab0 11 73 rfl rfl
 refine reg_undef rfl rfl av3 rfl rfl ?_
 exact qn (.refl _) rfl hS rfl
 intro av4 ck5 ck6 ck7 bs1 hS bs2 ab1 hcq
 have av5 : ev av4 (.tmp 73) = undef := ab1 11 73 rfl rfl
 refine reg_undef rfl rfl av5 rfl rfl ?_
 exact qn (.refl _) rfl hS rfl
 intro av6 ck8 ck9 cl0 bs3 hS bs4 ab2 hcq
 have av7 : ev av6 (.tmp 73) = undef := ab2 11 73 rfl rfl
 refine reg_undef rfl rfl av7 rfl rfl ?_
 exact qn (.refl _) rfl hS rfl
 intro av8 cl1 cl2 cl3 bs5 hS bs6 ab3 hcq
 have av9 : ev av8 (.tmp 73) = undef := ab3 11 73 rfl rfl
 refine reg_undef rfl rfl av9 rfl rfl ?_
 exact qn (.refl _) rfl hS rfl
 intro aw0 cl4 cl5 cl6 bs7 hS bs8 ab4 hcq
 have aw1 : ev aw0 (.tmp 73) = undef := ab4 11 73 rfl rfl
 refine reg_undef rfl rfl aw1 rfl rfl ?_
 exact qn (.refl _) rfl hS rfl
 intro aw2 cl7 cl8 cl9 bs9 hS bt0 ab5 hcq
 have aw3 : ev aw2 (.tmp 67) = Value.bool (decide (a4 = (a1.length : Int))) := ab5 5 67 rfl rfl
 refine reg_unguard rfl rfl (Eq.trans aw3 (congrArg Value.bool (decide_eq_true b5))) rfl rfl rfl ?_
 exact qn (.refl _) rfl hS rfl
 intro a32 cm0 cm1 cm2 bt1 hS bt2 v9 hcq
 have aw4 : ev a32 (.tmp 67) = Value.bool (decide (a4 = (a1.length : Int))) := v9 5 67 rfl rfl
 have cm3 : ev a32 (.tmp 87) = undef := v9 25 87 rfl rfl
 refine r_pick (t := true) (Value.bool true) (Eq.trans aw4 (congrArg Value.bool (decide_eq_true b5))) ((if_pos rfl).trans rfl) rfl ?_
 exact qn (.refl _) rfl hS rfl
 intro aw5 cm4 cm5 cm6 bt3 hS bt4 ab6 hcq
 have aw6 : ev aw5 (.tmp 88) = Value.bool true := ab6 26 88 rfl rfl
 refine r_assign (Value.bool true) aw6 rfl ?_
 exact qn (.refl _) rfl hS rfl
 intro aw7 aw8 a33 j1 hS e5 ab7 hcq
 have hS : St a33 aw8 (a8 ++ ([(c0, cA ([a6]) 47)] ++ ([(b7, cA ([vN]) 47)] ++ ([(b4, cA ([s1]) 47)] ++ ([(b1, cA ([s0]) 47)] ++ L))))) := hS
 have hsub := hsub.trans j1
 have b3 := b3.mono j1
 have b0 := b0.mono j1
 have a5 := a5.mono j1
 have aw9 : ev aw7 (.tmp 61) = Value.bool true := ab7 27 61 (by decide) rfl
 refine reg_nil ?_
 exact y7 _ _ ⟨true, a33, c1, hsub, hS, b0, b3, a5, (evT (e5 2 rfl) k2), (evT (e5 3 rfl) e0), (evT (e5 4 rfl) d5), (evT (e5 6 rfl) g9), (evT (e5 7 rfl) h0), (evT (e5 8 rfl) e1), (evT (e5 9 rfl) d6), aw9⟩
 rw [if_neg b5] at c1
 have bt5 := b0.bound
 by_cases b2 : a3 < (a0.length : Int)
 rw [if_pos b2] at c1
 obtain ⟨bt6, c1⟩ := gd c1
 obtain ⟨l9, m0, bt7, cm7, _, ab8, n5, ⟨_, _, rfl, rfl, rfl⟩, ab9⟩ := b0.elem (i := a3) (by omega) (by omega)
 obtain ⟨bt8, c1⟩ := gd c1
 obtain ⟨bt9, c1⟩ := gd c1
 obtain ⟨m1, m2, bu0, cm8, _, ac0, n6, ⟨_, _, rfl, rfl, rfl⟩, ac1⟩ := b3.elem (i := a4) (by omega) (by omega)
 obtain ⟨c7, ac2, c1⟩ := bind_some c1
 refine run_draw 28 (tabL [(62, MP.eq (vI a4)), (63, MP.eq (vP b4)), (64, MP.eq (s1)), (65, MP.eq (vI (a1.length : Int))), (66, MP.eq (Value.bool (decide (a4 = (a1.length : Int))))), (67, MP.eq (Value.bool (decide (a4 = (a1.length : Int))))), (68, MP.eq (vI a3)), (69, MP.eq (vP b1)), (70, MP.eq (s0)), (71, MP.eq (vI (a0.length : Int))), (72, MP.eq (Value.bool (decide (a3 < (a0.length : Int))))), (73, MP.eq (Value.bool (decide (a3 < (a0.length : Int))))), (74, MP.eq (vP b1)), (75, MP.eq (s0)), (76, MP.eq (vI a3)), (77, MP.eq (Value.pointer (some ⟨l9, m0, none⟩))), (78, MP.eq (Value.pointer (some ⟨l9, m0 + 0, none⟩))), (79, MP.eq (vA (enc8 .u8 ((rd a0 a3).1)))), (80, MP.eq (vP b4)), (81, MP.eq (s1)), (82, MP.eq (vI a4)), (83, MP.eq (Value.pointer (some ⟨m1, m2, none⟩))), (84, MP.eq (Value.pointer (some ⟨m1, m2 + 0, none⟩))), (85, MP.eq (vA (enc8 .u8 ((rd a1 a4).1)))), (86, MP.eq (Value.bool c7)), (87, MP.eq (Value.bool c7)), (88, MP.eq (Value.bool c7)), (61, MP.eq (Value.bool c7))]) [] mixed rfl rfl rfl hS (hop_q rfl ?_ (hop_q rfl ?_ (hop_q rfl ?_ (hop_q rfl ?_ (hop_q rfl ?_ (hop_q rfl ?_ (hop_q rfl ?_ (hop_q rfl ?_ (hop_q rfl ?_ (hop_q rfl ?_ (hop_q rfl ?_ (hop_q rfl ?_ (hop_q rfl ?_ (hop_q rfl ?_ (hop_q rfl ?_ (hop_q rfl ?_ (hop_q rfl ?_ (hop_q rfl ?_ (hop_q rfl ?_ (hop_q rfl ?_ (hop_q rfl ?_ (hop_q rfl ?_ (hop_q rfl ?_ (hop_q rfl ?_ (hop_q rfl ?_ (hop_q rfl ?_ (hop_q rfl ?_ (hop_q rfl ?_ hop_nil)))))))))))))))))))))))))))) ?_
 intro a12 a13 a14 a15 u8 hS f9 u9 hcq
 have i1 := evT (f9 9 rfl) d6
 refine r_move (vI a4) i1 rfl ?_
 exact qn (.refl _) rfl hS rfl
 intro a16 a17 a18 a19 v0 hS g0 v1 hcq
 have i2 := evT (g0 4 rfl) d5
 refine r_fieldAddr fld47_0 i2 rfl ?_
 exact qn (.refl _) rfl hS rfl
 intro i3 a20 a21 a22 v2 hS v3 g1 hcq
 have i4 : ev i3 (.tmp 63) = vP b4 := g1 1 63 rfl rfl
 refine r_loadOne (s1) ty45 i4 (hS.get (mR (mR (mR (mR mL))))) rfl rfl ?_
 exact qn (.refl _) rfl hS rfl
 intro i5 a23 a24 a25 g2 hS v4 g3 hcq
 have b3 := b3.mono g2
 have i6 : ev i5 (.tmp 64) = s1 := g3 2 64 rfl rfl
 refine r_lenRd sl45 i6 b3 rfl ?_
 exact qn (.refl _) rfl hS rfl
 intro f0 a26 a27 a28 v5 hS v6 d9 hcq
 have i7 : ev f0 (.tmp 62) = vI a4 := d9 0 62 rfl rfl
 have i8 : ev f0 (.tmp 65) = vI (a1.length : Int) := d9 3 65 rfl rfl
 refine r_eql (k := .i64) (a := a4) (b := (a1.length : Int)) i7 i8 rfl ?_
 exact qn (.refl _) rfl hS rfl
 intro i9 a29 a30 a31 v7 hS v8 g4 hcq
 have j0 : ev i9 (.tmp 66) = Value.bool (decide (a4 = (a1.length : Int))) := g4 4 66 rfl rfl
 refine r_move (Value.bool (decide (a4 = (a1.length : Int)))) j0 rfl ?_
 exact qn (.refl _) rfl hS rfl
 intro s3 ax0 ax1 ax2 ac3 hS n7 n8 hcq
 have s4 : ev s3 (.tmp 67) = Value.bool (decide (a4 = (a1.length : Int))) := n8 5 67 rfl rfl
 have s5 := evT (n7 8 rfl) e1
 refine reg_guard rfl rfl (Eq.trans s4 (congrArg Value.bool (decide_eq_false b5))) (r_move (vI a3) s5 rfl ?_)
 exact qn (.refl _) rfl hS rfl
 intro s6 ax3 ax4 ax5 ac4 hS n9 o0 hcq
 have s7 : ev s6 (.tmp 67) = Value.bool (decide (a4 = (a1.length : Int))) := o0 5 67 rfl rfl
 have s8 := evT (n9 3 rfl) e0
 refine reg_guard rfl rfl (Eq.trans s7 (congrArg Value.bool (decide_eq_false b5))) (r_fieldAddr fld47_0 s8 rfl ?_)
 exact qn (.refl _) rfl hS rfl
 intro j2 ax6 ax7 ax8 ac5 hS ac6 g5 hcq
 have s9 : ev j2 (.tmp 67) = Value.bool (decide (a4 = (a1.length : Int))) := g5 5 67 rfl rfl
 have t0 : ev j2 (.tmp 69) = vP b1 := g5 7 69 rfl rfl
 refine reg_guard rfl rfl (Eq.trans s9 (congrArg Value.bool (decide_eq_false b5))) ?_
 refine r_loadOne (s0) ty45 t0 (hS.get (mR (mR (mR (mR (mR mL)))))) rfl rfl ?_
 exact qn (.refl _) rfl hS rfl
 intro j3 ax9 ay0 ay1 o1 hS ac7 g6 hcq
 have b0 := b0.mono o1
 have t1 : ev j3 (.tmp 67) = Value.bool (decide (a4 = (a1.length : Int))) := g6 5 67 rfl rfl
 have t4 : ev j3 (.tmp 70) = s0 := g6 8 70 rfl rfl
 refine reg_guard rfl rfl (Eq.trans t1 (congrArg Value.bool (decide_eq_false b5))) ?_
 refine r_lenRd sl45 t4 b0 rfl ?_
 exact qn (.refl _) rfl hS rfl
 intro f8 ay2 ay3 ay4 ac8 hS ac9 e6 hcq
 have t5 : ev f8 (.tmp 67) = Value.bool (decide (a4 = (a1.length : Int))) := e6 5 67 rfl rfl
 have t6 : ev f8 (.tmp 68) = vI a3 := e6 6 68 rfl rfl
 have t7 : ev f8 (.tmp 71) = vI (a0.length : Int) := e6 9 71 rfl rfl
 refine reg_guard rfl rfl (Eq.trans t5 (congrArg Value.bool (decide_eq_false b5))) ?_
 refine r_lss (k := .i64) (a := a3) (b := (a0.length : Int)) t6 t7 rfl ?_
 exact qn (.refl _) rfl hS rfl
 intro j4 ay5 ay6 ay7 ad0 hS ad1 g7 hcq
 have t8 : ev j4 (.tmp 67) = Value.bool (decide (a4 = (a1.length : Int))) := g7 5 67 rfl rfl
 have t9 : ev j4 (.tmp 72) = Value.bool (decide (a3 < (a0.length : Int))) := g7 10 72 rfl rfl
 refine reg_guard rfl rfl (Eq.trans t8 (congrArg Value.bool (decide_eq_false b5))) (r_move (Value.bool (decide (a3 < (a0.length : Int)))) t9 rfl ?_)
 exact qn (.refl _) rfl hS rfl
 intro ay8 cm9 cn0 cn1 bu1 hS ad2 ad3 hcq
 have ay9 : ev ay8 (.tmp 73) = Value.bool (decide (a3 < (a0.length : Int))) := ad3 11 73 rfl rfl
 refine reg_guard rfl rfl (Eq.trans ay9 (congrArg Value.bool (decide_eq_true b2))) (r_fieldAddr fld47_0 (evT (ad2 3 rfl) e0) rfl ?_)
 exact qn (.refl _) rfl hS rfl
 intro a34 cn2 cn3 cn4 bu2 hS bu3 w0 hcq
 have az0 : ev a34 (.tmp 73) = Value.bool (decide (a3 < (a0.length : Int))) := w0 11 73 rfl rfl
 have az1 : ev a34 (.tmp 74) = vP b1 := w0 12 74 rfl rfl
 refine reg_guard rfl rfl (Eq.trans az0 (congrArg Value.bool (decide_eq_true b2))) ?_
 refine r_loadOne (s0) ty45 az1 (hS.get (mR (mR (mR (mR (mR mL)))))) rfl rfl ?_
 exact qn (.refl _) rfl hS rfl
 intro az2 cn5 cn6 cn7 bu4 hS ad4 ad5 hcq
 have az3 : ev az2 (.tmp 73) = Value.bool (decide (a3 < (a0.length : Int))) := ad5 11 73 rfl rfl
 refine reg_guard rfl rfl (Eq.trans az3 (congrArg Value.bool (decide_eq_true b2))) (r_move (vI a3) (evT (ad4 8 rfl) e1) rfl ?_)
 exact qn (.refl _) rfl hS rfl
 intro u0 cn8 cn9 co0 bu5 hS bu6 o2 hcq
 have az4 : ev u0 (.tmp 73) = Value.bool (decide (a3 < (a0.length : Int))) := o2 11 73 rfl rfl
 have az5 : ev u0 (.tmp 75) = s0 := o2 13 75 rfl rfl
 have az6 : ev u0 (.tmp 76) = vI a3 := o2 14 76 rfl rfl
 refine reg_guard rfl rfl (Eq.trans az4 (congrArg Value.bool (decide_eq_true b2))) ?_
 refine r_indexAt sl45 rfl az5 ab8 az6 (by omega) (by omega) rfl ?_
 exact qn (.refl _) rfl hS rfl
 intro a35 co1 co2 co3 bu7 hS bu8 w1 hcq
 have az7 : ev a35 (.tmp 73) = Value.bool (decide (a3 < (a0.length : Int))) := w1 11 73 rfl rfl
 have az8 : ev a35 (.tmp 77) = Value.pointer (some ⟨l9, m0, none⟩) := w1 15 77 rfl rfl
 refine reg_guard rfl rfl (Eq.trans az7 (congrArg Value.bool (decide_eq_true b2))) (r_fieldAddr fld76_0 az8 rfl ?_)
 exact qn (.refl _) rfl hS rfl
 intro a36 co4 co5 co6 ad6 hS bu9 w3 hcq
 have n5 := ad6.1 _ _ n5
 have az9 : ev a36 (.tmp 73) = Value.bool (decide (a3 < (a0.length : Int))) := w3 11 73 rfl rfl
 have b00 : ev a36 (.tmp 78) = Value.pointer (some ⟨l9, m0 + 0, none⟩) := w3 16 78 rfl rfl
 refine reg_guard rfl rfl (Eq.trans az9 (congrArg Value.bool (decide_eq_true b2))) ?_
 refine r_loadAgg (enc8 .u8 ((rd a0 a3).1)) ty70 b00 (hS.froz _ _ n5) rfl (sub_cells ([]) (enc8 .u8 ((rd a0 a3).1)) (([vI ((rd a0 a3).2)])) ab9 (Nat.le_of_ble_eq_true rfl)) rfl ?_
 exact qn (.refl _) rfl hS rfl
 intro b01 co7 co8 co9 bv0 hS ad7 ad8 hcq
 have b02 : ev b01 (.tmp 73) = Value.bool (decide (a3 < (a0.length : Int))) := ad8 11 73 rfl rfl
 refine reg_guard rfl rfl (Eq.trans b02 (congrArg Value.bool (decide_eq_true b2))) (r_fieldAddr fld47_0 (evT (ad7 4 rfl) d5) rfl ?_)
 exact qn (.refl _) rfl hS rfl
 intro a37 cp0 cp1 cp2 bv1 hS bv2 w4 hcq
 have b03 : ev a37 (.tmp 73) = Value.bool (decide (a3 < (a0.length : Int))) := w4 11 73 rfl rfl
 have b04 : ev a37 (.tmp 80) = vP b4 := w4 18 80 rfl rfl
 refine reg_guard rfl rfl (Eq.trans b03 (congrArg Value.bool (decide_eq_true b2))) ?_
 refine r_loadOne (s1) ty45 b04 (hS.get (mR (mR (mR (mR mL))))) rfl rfl ?_
 exact qn (.refl _) rfl hS rfl
 intro b05 cp3 cp4 cp5 bv3 hS ad9 ae0 hcq
 have b06 : ev b05 (.tmp 73) = Value.bool (decide (a3 < (a0.length : Int))) := ae0 11 73 rfl rfl
 refine reg_guard rfl rfl (Eq.trans b06 (congrArg Value.bool (decide_eq_true b2))) (r_move (vI a4) (evT (ad9 9 rfl) d6) rfl ?_)
 exact qn (.refl _) rfl hS rfl
 intro u1 cp6 cp7 cp8 bv4 hS bv5 o3 hcq
 have b07 : ev u1 (.tmp 73) = Value.bool (decide (a3 < (a0.length : Int))) := o3 11 73 rfl rfl
 have b08 : ev u1 (.tmp 81) = s1 := o3 19 81 rfl rfl
 have b09 : ev u1 (.tmp 82) = vI a4 := o3 20 82 rfl rfl
 refine reg_guard rfl rfl (Eq.trans b07 (congrArg Value.bool (decide_eq_true b2))) ?_
 refine r_indexAt sl45 rfl b08 ac0 b09 (by omega) (by omega) rfl ?_
 exact qn (.refl _) rfl hS rfl
 intro a38 cp9 cq0 cq1 bv6 hS bv7 w6 hcq
 have b11 : ev a38 (.tmp 73) = Value.bool (decide (a3 < (a0.length : Int))) := w6 11 73 rfl rfl
 have b12 : ev a38 (.tmp 83) = Value.pointer (some ⟨m1, m2, none⟩) := w6 21 83 rfl rfl
 refine reg_guard rfl rfl (Eq.trans b11 (congrArg Value.bool (decide_eq_true b2))) (r_fieldAddr fld76_0 b12 rfl ?_)
 exact qn (.refl _) rfl hS rfl
 intro a39 cq2 cq3 cq4 ae1 hS bv8 w7 hcq
 have n6 := ae1.1 _ _ n6
 have b13 : ev a39 (.tmp 73) = Value.bool (decide (a3 < (a0.length : Int))) := w7 11 73 rfl rfl
 have b14 : ev a39 (.tmp 84) = Value.pointer (some ⟨m1, m2 + 0, none⟩) := w7 22 84 rfl rfl
 refine reg_guard rfl rfl (Eq.trans b13 (congrArg Value.bool (decide_eq_true b2))) ?_
 refine r_loadAgg (enc8 .u8 ((rd a1 a4).1)) ty70 b14 (hS.froz _ _ n6) rfl (sub_cells ([]) (enc8 .u8 ((rd a1 a4).1)) (([vI ((rd a1 a4).2)])) ac1 (Nat.le_of_ble_eq_true rfl)) rfl ?_
 exact qn (.refl _) rfl hS rfl
 intro u2 cq5 cq6 cq7 bv9 hS bw0 o4 hcq
 have b15 : ev u2 (.tmp 73) = Value.bool (decide (a3 < (a0.length : Int))) := o4 11 73 rfl rfl
 have b16 : ev u2 (.tmp 79) = vA (enc8 .u8 ((rd a0 a3).1)) := o4 17 79 rfl rfl
 have b17 : ev u2 (.tmp 85) = vA (enc8 .u8 ((rd a1 a4).1)) := o4 23 85 rfl rfl
 refine reg_guard rfl rfl (Eq.trans b15 (congrArg Value.bool (decide_eq_true b2))) ?_
 refine r_callFn Tryz.call203 (args2 b16 b17) rfl (g_spec_l01Before_ok ac2  hS) ?_
 rintro cq8 cq9 ⟨_, cr0, rfl, ae2, hS, rfl⟩
 refine ⟨_, rfl, ?_⟩
 exact qn ae2 rfl hS rfl
 intro u3 cr1 cr2 cr3 bw1 hS bw2 o5 hcq
 have b18 : ev u3 (.tmp 67) = Value.bool (decide (a4 = (a1.length : Int))) := o5 5 67 rfl rfl
 have b19 : ev u3 (.tmp 73) = Value.bool (decide (a3 < (a0.length : Int))) := o5 11 73 rfl rfl
 have b20 : ev u3 (.tmp 86) = Value.bool c7 := o5 24 86 rfl rfl
 refine reg_guard rfl rfl (Eq.trans b18 (congrArg Value.bool (decide_eq_false b5))) ?_
 refine r_pick (t := true) (Value.bool c7) (Eq.trans b19 (congrArg Value.bool (decide_eq_true b2))) ((if_pos rfl).trans b20) rfl ?_
 exact qn (.refl _) rfl hS rfl
 intro a40 cr4 cr5 cr6 bw3 hS bw4 w9 hcq
 have b21 : ev a40 (.tmp 67) = Value.bool (decide (a4 = (a1.length : Int))) := w9 5 67 rfl rfl
 have b22 : ev a40 (.tmp 87) = Value.bool c7 := w9 25 87 rfl rfl
 refine r_pick (t := false) (Value.bool c7) (Eq.trans b21 (congrArg Value.bool (decide_eq_false b5))) ((if_neg Bool.false_ne_true).trans b22) rfl ?_
 exact qn (.refl _) rfl hS rfl
 intro b23 cr7 cr8 cr9 bw5 hS bw6 ae3 hcq
 have b24 : ev b23 (.tmp 88) = Value.bool c7 := ae3 26 88 rfl rfl
 refine r_assign (Value.bool c7) b24 rfl ?_
 exact qn (.refl _) rfl hS rfl
 intro b25 b26 a41 j5 hS e7 ae4 hcq
 have hS : St a41 b26 (a8 ++ ([(c0, cA ([a6]) 47)] ++ ([(b7, cA ([vN]) 47)] ++ ([(b4, cA ([s1]) 47)] ++ ([(b1, cA ([s0]) 47)] ++ L))))) := hS
 have hsub := hsub.trans j5
 have b3 := b3.mono j5
 have b0 := b0.mono j5
 have a5 := a5.mono j5
 have b27 : ev b25 (.tmp 61) = Value.bool c7 := ae4 27 61 (by decide) rfl
 refine reg_nil ?_
 exact y7 _ _ ⟨c7, a41, c1, hsub, hS, b0, b3, a5, (evT (e7 2 rfl) k2), (evT (e7 3 rfl) e0), (evT (e7 4 rfl) d5), (evT (e7 6 rfl) g9), (evT (e7 7 rfl) h0), (evT (e7 8 rfl) e1), (evT (e7 9 rfl) d6), b27⟩
 rw [if_neg b2] at c1
 refine run_draw 28 (tabL [(62, MP.eq (vI a4)), (63, MP.eq (vP b4)), (64, MP.eq (s1)), (65, MP.eq (vI (a1.length : Int))), (66, MP.eq (Value.bool (decide (a4 = (a1.length : Int))))), (67, MP.eq (Value.bool (decide (a4 = (a1.length : Int))))), (68, MP.eq (vI a3)), (69, MP.eq (vP b1)), (70, MP.eq (s0)), (71, MP.eq (vI (a0.length : Int))), (72, MP.eq (Value.bool (decide (a3 < (a0.length : Int))))), (73, MP.eq (Value.bool (decide (a3 < (a0.length : Int))))), (74, MP.eq (undef)), (75, MP.eq (undef)), (76, MP.eq (undef)), (77, MP.eq (undef)), (78, MP.eq (undef)), (79, MP.eq (undef)), (80, MP.eq (undef)), (81, MP.eq (undef)), (82, MP.eq (undef)), (83, MP.eq (undef)), (84, MP.eq (undef)), (85, MP.eq (undef)), (86, MP.eq (undef)), (87, MP.eq (Value.bool false)), (88, MP.eq (Value.bool false)), (61, MP.eq (Value.bool false))]) [] mixed rfl rfl rfl hS (hop_q rfl ?_ (hop_q rfl ?_ (hop_q rfl ?_ (hop_q rfl ?_ (hop_q rfl ?_ (hop_q rfl ?_ (hop_q rfl ?_ (hop_q rfl ?_ (hop_q rfl ?_ (hop_q rfl ?_ (hop_q rfl ?_ (hop_q rfl ?_ (hop_q rfl ?_ (hop_q rfl ?_ (hop_q rfl ?_ (hop_q rfl ?_ (hop_q rfl ?_ (hop_q rfl ?_ (hop_q rfl ?_ (hop_q rfl ?_ (hop_q rfl ?_ (hop_q rfl ?_ (hop_q rfl ?_ (hop_q rfl ?_ (hop_q rfl ?_ (hop_q rfl ?_ (hop_q rfl ?_ (hop_q rfl ?_ hop_nil)))))))))))))))))))))))))))) ?_
 intro a12 a13 a14 a15 u8 hS f9 u9 hcq
 have i1 := evT (f9 9 rfl) d6
 refine r_move (vI a4) i1 rfl ?_
 exact qn (.refl _) rfl hS rfl
 intro a16 a17 a18 a19 v0 hS g0 v1 hcq
 have i2 := evT (g0 4 rfl) d5
 refine r_fieldAddr fld47_0 i2 rfl ?_
 exact qn (.refl _) rfl hS rfl
 intro i3 a20 a21 a22 v2 hS v3 g1 hcq
 have i4 : ev i3 (.tmp 63) = vP b4 := g1 1 63 rfl rfl
 refine r_loadOne (s1) ty45 i4 (hS.get (mR (mR (mR (mR mL))))) rfl rfl ?_
 exact qn (.refl _) rfl hS rfl
 intro i5 a23 a24 a25 g2 hS v4 g3 hcq
 have b3 := b3.mono g2
 have i6 : ev i5 (.tmp 64) = s1 := g3 2 64 rfl rfl
 refine r_lenRd sl45 i6 b3 rfl ?_
 exact qn (.refl _) rfl hS rfl
 intro f0 a26 a27 a28 v5 hS v6 d9 hcq
 have i7 : ev f0 (.tmp 62) = vI a4 := d9 0 62 rfl rfl
 have i8 : ev f0 (.tmp 65) = vI (a1.length : Int) := d9 3 65 rfl rfl
 refine r_eql (k := .i64) (a := a4) (b := (a1.length : Int)) i7 i8 rfl ?_
 exact qn (.refl _) rfl hS rfl
 intro i9 a29 a30 a31 v7 hS v8 g4 hcq
 have j0 : ev i9 (.tmp 66) = Value.bool (decide (a4 = (a1.length : Int))) := g4 4 66 rfl rfl
 refine r_move (Value.bool (decide (a4 = (a1.length : Int)))) j0 rfl ?_
 exact qn (.refl _) rfl hS rfl
 intro s3 ax0 ax1 ax2 ac3 hS n7 n8 hcq
 have s4 : ev s3 (.tmp 67) = Value.bool (decide (a4 = (a1.length : Int))) := n8 5 67 rfl rfl
 have s5 := evT (n7 8 rfl) e1
 refine reg_guard rfl rfl (Eq.trans s4 (congrArg Value.bool (decide_eq_false b5))) (r_move (vI a3) s5 rfl ?_)
 exact qn (.refl _) rfl hS rfl
 intro s6 ax3 ax4 ax5 ac4 hS n9 o0 hcq
 have s7 : ev s6 (.tmp 67) = Value.bool (decide (a4 = (a1.length : Int))) := o0 5 67 rfl rfl
 have s8 := evT (n9 3 rfl) e0
 refine reg_guard rfl rfl (Eq.trans s7 (congrArg Value.bool (decide_eq_false b5))) (r_fieldAddr fld47_0 s8 rfl ?_)
 exact qn (.refl _) rfl hS rfl
 intro j2 ax6 ax7 ax8 ac5 hS ac6 g5 hcq
 have s9 : ev j2 (.tmp 67) = Value.bool (decide (a4 = (a1.length : Int))) := g5 5 67 rfl rfl
 have t0 : ev j2 (.tmp 69) = vP b1 := g5 7 69 rfl rfl
 refine reg_guard rfl rfl (Eq.trans s9 (congrArg Value.bool (decide_eq_false b5))) ?_
 refine r_loadOne (s0) ty45 t0 (hS.get (mR (mR (mR (mR (mR mL)))))) rfl rfl ?_
 exact qn (.refl _) rfl hS rfl
 intro j3 ax9 ay0 ay1 o1 hS ac7 g6 hcq
 have b0 := b0.mono o1
 have t1 : ev j3 (.tmp 67) = Value.bool (decide (a4 = (a1.length : Int))) := g6 5 67 rfl rfl
 have t4 : ev j3 (.tmp 70) = s0 := g6 8 70 rfl rfl
 refine reg_guard rfl rfl (Eq.trans t1 (congrArg Value.bool (decide_eq_false b5))) ?_
 refine r_lenRd sl45 t4 b0 rfl ?_
 exact qn (.refl _) rfl hS rfl
 intro f8 ay2 ay3 ay4 ac8 hS ac9 e6 hcq
 have t5 : ev f8 (.tmp 67) = Value.bool (decide (a4 = (a1.length : Int))) := e6 5 67 rfl rfl
 have t6 : ev f8 (.tmp 68) = vI a3 := e6 6 68 rfl rfl
 have t7 : ev f8 (.tmp 71) = vI (a0.length : Int) := e6 9 71 rfl rfl
 refine reg_guard rfl rfl (Eq.trans t5 (congrArg Value.bool (decide_eq_false b5))) ?_
 refine r_lss (k := .i64) (a := a3) (b := (a0.length : Int)) t6 t7 rfl ?_
 exact qn (.refl _) rfl hS rfl
 intro j4 ay5 ay6 ay7 ad0 hS ad1 g7 hcq
 have t8 : ev j4 (.tmp 67) = Value.bool (decide (a4 = (a1.length : Int))) := g7 5 67 rfl rfl
 have t9 : ev j4 (.tmp 72) = Value.bool (decide (a3 < (a0.length : Int))) := g7 10 72 rfl rfl
 refine reg_guard rfl rfl (Eq.trans t8 (congrArg Value.bool (decide_eq_false b5))) (r_move (Value.bool (decide (a3 < (a0.length : Int)))) t9 rfl ?_)
 exact qn (.refl _) rfl hS rfl
 intro b28 cs0 cs1 cs2 bw7 hS bw8 ae5 hcq
 have b29 : ev b28 (.tmp 73) = Value.bool (decide (a3 < (a0.length : Int))) := ae5 11 73 rfl rfl
 refine reg_unguard rfl rfl (Eq.trans b29 (congrArg Value.bool (decide_eq_false b2))) rfl rfl rfl ?_
 exact qn (.refl _) rfl hS rfl
 intro b30 cs3 cs4 cs5 bw9 hS bx0 ae6 hcq
 have b31 : ev b30 (.tmp 73) = Value.bool (decide (a3 < (a0.length : Int))) := ae6 11 73 rfl rfl
 refine reg_unguard rfl rfl (Eq.trans b31 (congrArg Value.bool (decide_eq_false b2))) rfl rfl rfl ?_
 exact qn (.refl _) rfl hS rfl
 intro b32 cs6 cs7 cs8 bx1 hS bx2 ae7 hcq
 have b33 : ev b32 (.tmp 73) = Value.bool (decide (a3 < (a0.length : Int))) := ae7 11 73 rfl rfl
 refine reg_unguard rfl rfl (Eq.trans b33 (congrArg Value.bool (decide_eq_false b2))) rfl rfl rfl ?_
 exact qn (.refl _) rfl hS rfl
 intro b34 cs9 ct0 ct1 bx3 hS bx4 ae8 hcq
 have b35 : ev b34 (.tmp 73) = Value.bool (decide (a3 < (a0.length : Int))) := ae8 11 73 rfl rfl
 refine reg_unguard rfl rfl (Eq.trans b35 (congrArg Value.bool (decide_eq_false b2))) rfl rfl rfl ?_
 exact qn (.refl _) rfl hS rfl
 intro b36 ct2 ct3 ct4 bx5 hS bx6 ae9 hcq
 have b37 : ev b36 (.tmp 73) = Value.bool (decide (a3 < (a0.length : Int))) := ae9 11 73 rfl rfl
 refine reg_unguard rfl rfl (Eq.trans b37 (congrArg Value.bool (decide_eq_false b2))) rfl rfl rfl ?_
 exact qn (.refl _) rfl hS rfl
 intro b38 ct5 ct6 ct7 bx7 hS bx8 af0 hcq
 have b39 : ev b38 (.tmp 73) = Value.bool (decide (a3 < (a0.length : Int))) := af0 11 73 rfl rfl
 refine reg_unguard rfl rfl (Eq.trans b39 (congrArg Value.bool (decide_eq_false b2))) rfl rfl rfl ?_
 exact qn (.refl _) rfl hS rfl
 intro b40 ct8 ct9 cu0 bx9 hS by0 af1 hcq
 have b41 : ev b40 (.tmp 73) = Value.bool (decide (a3 < (a0.length : Int))) := af1 11 73 rfl rfl
 refine reg_unguard rfl rfl (Eq.trans b41 (congrArg Value.bool (decide_eq_false b2))) rfl rfl rfl ?_
 exact qn (.refl _) rfl hS rfl
 intro b42 cu1 cu2 cu3 by1 hS by2 af2 hcq
 have b43 : ev b42 (.tmp 73) = Value.bool (decide (a3 < (a0.length : Int))) := af2 11 73 rfl rfl
 refine reg_unguard rfl rfl (Eq.trans b43 (congrArg Value.bool (decide_eq_false b2))) rfl rfl rfl ?_
 exact qn (.refl _) rfl hS rfl
 intro b44 cu4 cu5 cu6 by3 hS by4 af3 hcq
 have b45 : ev b44 (.tmp 73) = Value.bool (decide (a3 < (a0.length : Int))) := af3 11 73 rfl rfl
 refine reg_unguard rfl rfl (Eq.trans b45 (congrArg Value.bool (decide_eq_false b2))) rfl rfl rfl ?_
 exact qn (.refl _) rfl hS rfl
 intro b46 cu7 cu8 cu9 by5 hS by6 af4 hcq
 have b47 : ev b46 (.tmp 73) = Value.bool (decide (a3 < (a0.length : Int))) := af4 11 73 rfl rfl
 refine reg_unguard rfl rfl (Eq.trans b47 (congrArg Value.bool (decide_eq_false b2))) rfl rfl rfl ?_
 exact qn (.refl _) rfl hS rfl
 intro b48 cv0 cv1 cv2 by7 hS by8 af5 hcq
 have b49 : ev b48 (.tmp 73) = Value.bool (decide (a3 < (a0.length : Int))) := af5 11 73 rfl rfl
 refine reg_unguard rfl rfl (Eq.trans b49 (congrArg Value.bool (decide_eq_false b2))) rfl rfl rfl ?_
 exact qn (.refl _) rfl hS rfl
 intro b50 cv3 cv4 cv5 by9 hS bz0 af6 hcq
 have b51 : ev b50 (.tmp 73) = Value.bool (decide (a3 < (a0.length : Int))) := af6 11 73 rfl rfl
 refine reg_unguard rfl rfl (Eq.trans b51 (congrArg Value.bool (decide_eq_false b2))) rfl rfl rfl ?_
 exact qn (.refl _) rfl hS rfl
 intro b52 cv6 cv7 cv8 bz1 hS bz2 af7 hcq
 have b53 : ev b52 (.tmp 73) = Value.bool (decide (a3 < (a0.length : Int))) := af7 11 73 rfl rfl
 refine reg_unguard rfl rfl (Eq.trans b53 (congrArg Value.bool (decide_eq_false b2))) rfl rfl rfl ?_
 exact qn (.refl _) rfl hS rfl
 intro u4 cv9 cw0 cw1 bz3 hS bz4 o6 hcq
 have b54 : ev u4 (.tmp 67) = Value.bool (decide (a4 = (a1.length : Int))) := o6 5 67 rfl rfl
 have b55 : ev u4 (.tmp 73) = Value.bool (decide (a3 < (a0.length : Int))) := o6 11 73 rfl rfl
 have cw2 : ev u4 (.tmp 86) = undef := o6 24 86 rfl rfl
 refine reg_guard rfl rfl (Eq.trans b54 (congrArg Value.bool (decide_eq_false b5))) ?_
 refine r_pick (t := false) (Value.bool false) (Eq.trans b55 (congrArg Value.bool (decide_eq_false b2))) ((if_neg Bool.false_ne_true).trans rfl) rfl ?_
 exact qn (.refl _) rfl hS rfl
 intro a42 cw3 cw4 cw5 bz5 hS bz6 x0 hcq
 have b56 : ev a42 (.tmp 67) = Value.bool (decide (a4 = (a1.length : Int))) := x0 5 67 rfl rfl
 have b57 : ev a42 (.tmp 87) = Value.bool false := x0 25 87 rfl rfl
 refine r_pick (t := false) (Value.bool false) (Eq.trans b56 (congrArg Value.bool (decide_eq_false b5))) ((if_neg Bool.false_ne_true).trans b57) rfl ?_
 exact qn (.refl _) rfl hS rfl
 intro b58 cw6 cw7 cw8 bz7 hS bz8 af8 hcq
 have b59 : ev b58 (.tmp 88) = Value.bool false := af8 26 88 rfl rfl
 refine r_assign (Value.bool false) b59 rfl ?_
 exact qn (.refl _) rfl hS rfl
 intro b60 b61 a43 j6 hS e8 af9 hcq
 have hS : St a43 b61 (a8 ++ ([(c0, cA ([a6]) 47)] ++ ([(b7, cA ([vN]) 47)] ++ ([(b4, cA ([s1]) 47)] ++ ([(b1, cA ([s0]) 47)] ++ L))))) := hS
 have hsub := hsub.trans j6
 have b3 := b3.mono j6
 have b0 := b0.mono j6
 have a5 := a5.mono j6
 have b62 : ev b60 (.tmp 61) = Value.bool false := af9 27 61 (by decide) rfl
 refine reg_nil ?_
 exact y7 _ _ ⟨false, a43, c1, hsub, hS, b0, b3, a5, (evT (e8 2 rfl) k2), (evT (e8 3 rfl) e0), (evT (e8 4 rfl) d5), (evT (e8 6 rfl) g9), (evT (e8 7 rfl) h0), (evT (e8 8 rfl) e1), (evT (e8 9 rfl) d6), b62⟩
 rw [if_neg p1] at c1
 refine run_cond_false (Eq.trans (by exact m3) (congrArg Value.bool (bfalse p1))) ?_
 refine run_exit rfl ?_
 have hz := Option.some.inj c1
 subst hz
 exact hx0 _ _ ⟨a7, a55, a8, a6, rfl, hsub, hS, a5, b0, b3, g9, h0⟩
 intro ag0
 refine run_region (r_move (vI a3) (by exact k0) rfl (r_fieldAddr fld47_0 (by exact j8) rfl ?_))
 refine r_loadOne (s0) ty45 rfl (hS.get (mR (mR (mR (mR mL))))) rfl rfl ?_
 have bz9 := b0.bound
 refine r_lenRd sl45 rfl b0 rfl ?_
 refine r_lss (k := .i64) (a := a3) (b := (a0.length : Int)) rfl rfl rfl (r_move (Value.bool (decide (a3 < (a0.length : Int)))) rfl rfl ?_)
 by_cases c4 : a3 < (a0.length : Int)
 rw [if_pos c4] at f1
 refine reg_unguard rfl rfl (Eq.trans rfl (congrArg Value.bool (decide_eq_true c4))) rfl rfl rfl (reg_unguard rfl rfl (Eq.trans rfl (congrArg Value.bool (decide_eq_true c4))) rfl rfl rfl (reg_unguard rfl rfl (Eq.trans rfl (congrArg Value.bool (decide_eq_true c4))) rfl rfl rfl (reg_unguard rfl rfl (Eq.trans rfl (congrArg Value.bool (decide_eq_true c4))) rfl rfl rfl (reg_unguard rfl rfl (Eq.trans rfl (congrArg Value.bool (decide_eq_true c4))) rfl rfl rfl ?_))))
 refine r_pick (t := true) (Value.bool true) (Eq.trans rfl (congrArg Value.bool (decide_eq_true c4))) ((if_pos rfl).trans rfl) rfl (reg_nil ?_)
 exact ag0 _ _ ⟨true, a54, f1, hsub, hS, b0, b3, a5, o7, j8, j9, o8, o9, k0, k1, rfl⟩
 rw [if_neg c4] at f1
 refine reg_guard rfl rfl (Eq.trans rfl (congrArg Value.bool (decide_eq_false c4))) (r_move (vI a4) (by exact k1) rfl ?_)
 refine reg_guard rfl rfl (Eq.trans rfl (congrArg Value.bool (decide_eq_false c4))) (r_fieldAddr fld47_0 (by exact j9) rfl ?_)
 refine reg_guard rfl rfl (Eq.trans rfl (congrArg Value.bool (decide_eq_false c4))) ?_
 refine r_loadOne (s1) ty45 rfl (hS.get (mR (mR (mR mL)))) rfl rfl ?_
 have c00 := b3.bound
 refine reg_guard rfl rfl (Eq.trans rfl (congrArg Value.bool (decide_eq_false c4))) ?_
 refine r_lenRd sl45 rfl b3 rfl ?_
 refine reg_guard rfl rfl (Eq.trans rfl (congrArg Value.bool (decide_eq_false c4))) ?_
 refine r_lss (k := .i64) (a := a4) (b := (a1.length : Int)) rfl rfl rfl ?_
 refine r_pick (t := false) (Value.bool (decide (a4 < (a1.length : Int)))) (Eq.trans rfl (congrArg Value.bool (decide_eq_false c4))) ((if_neg Bool.false_ne_true).trans rfl) rfl (reg_nil ?_)
 exact ag0 _ _ ⟨(decide (a4 < (a1.length : Int))), a54, f1, hsub, hS, b0, b3, a5, o7, j8, j9, o8, o9, k0, k1, rfl⟩
 exact ⟨0, ([] : List (A8 × Int)), 0, H, ([]), (vN), f1, hsub, hS, a52, b0, b3, rfl, rfl, rfl, rfl, rfl, rfl, rfl⟩
 rintro dm8 bm5 ⟨d2, ag1, c5, b8, rfl, hsub, hS, g8, b0, b3, p0, a51⟩
 dsimp only [Ex.elim] at a53
 refine run_seq (run_region ?_)
 refine r_loadAll ty47 (by exact a51) (hS.get (mR mL)) rfl rfl ?_
 have hS : St ag1 bm5 ([(b7, cA ([vN]) 47)] ++ (c5 ++ ([(c0, cA ([b8]) 47)] ++ ([(b4, cA ([s1]) 47)] ++ ([(b1, cA ([s0]) 47)] ++ L))))) := hS.perm (perm2 (A1 := c5) (A2 := [(c0, cA ([b8]) 47)]))
 refine r_storeAll (v := vA ([b8])) (vs := ([b8]).toArray) (cs := ([vN]).toArray) ty47 (by exact p0) rfl rfl hS rfl (one1 g8.isOne) rfl ?_
 intro b63 hS
 have hS : St ag1 b63 (c5 ++ ([(c0, cA ([b8]) 47)] ++ ([(b7, cA ([b8]) 47)] ++ ([(b4, cA ([s1]) 47)] ++ ([(b1, cA ([s0]) 47)] ++ L))))) := hS.perm (perm2 (A1 := c5) (A2 := [(c0, cA ([b8]) 47)])).symm
 refine reg_nil ?_
 refine run_ret (vs := [vA ([b8])]) Tryz.func143 ⟨⟨_, (by exact p0), run_loadAll ty47 (hS.get (mR (mR mL))) rfl⟩, trivial⟩ ?_
 obtain ⟨cw9, ag2, hS, ag3⟩ := g8.freeze hS
 have hsub := hsub.trans ag2
 have hz := Option.some.inj a53
 subst hz
 exact ⟨_, _, rfl, hsub, (St.dropA (A := [(b1, cA ([s0]) 47)]) (St.dropA (A := [(b4, cA ([s1]) 47)]) (St.dropA (A := [(b7, cA ([b8]) 47)]) (St.dropA (A := [(c0, cA ([b8]) 47)]) hS)))), ⟨_, rfl, ⟨_, rfl, ag3⟩⟩⟩
end Go.Proofs.YtfodlhkoafhplaaGreat
