/- Walks of functions: each computes its pure function, if that gives a value. -/
import Derived.Test.YtfodlhkoafhplaaGreatCTy
import Derived.Test.YtfodlhkoafhplaaGreatCF4
import Derived.Test.YtfodlhkoafhplaaGreatCF19
import Derived.Test.YtfodlhkoafhplaaGreatCF1
import Derived.Test.YtfodlhkoafhplaaGreatCF7
import Derived.Test.YtfodlhkoafhplaaGreatCF9
import Derived.Test.YtfodlhkoafhplaaGreatCF18
import Derived.Test.YtfodlhkoafhplaaGreatCF12
namespace Go.Proofs.YtfodlhkoafhplaaGreat
open Go
set_option linter.unusedSimpArgs false
set_option linter.unusedVariables false
def g_impl_DropGenerator_l0 (K : Nat) (a0 : ((List Int) × (List MpT))) (a1 : Int) (d0 : ((List Int) × (List Int))) : Nat → Int → (List MpT) → Option (Ex (((List Int) × (List MpT)) × Int) ((List MpT)))
 | 0, _, _ => none
 | k + 1, a9, b3 => (if a9 < (a0.2.length : Int) then ((g_impl_sumOf K (rd a0.2 a9)).bind fun j2 => ((g_impl_renumbered K a0.1 j2 d0.2 d0.1).bind fun g9 => ((g_impl_sum_form K g9).bind fun a3 => (if (a3.1, a3.2).2 = 0 then (if a9 = a1 then (if 0 < (((a3.1, a3.2).1).length : Int) then some (.ret ((([] : List Int), ([] : List MpT)), 5)) else g_impl_DropGenerator_l0 K a0 a1 d0 k (a9 + 1) b3) else (if b3.length + ([(a3.1, a3.2).1]).length ≤ 1099511627776 then g_impl_DropGenerator_l0 K a0 a1 d0 k (a9 + 1) (b3 ++ [(a3.1, a3.2).1]) else none)) else some (.ret ((([] : List Int), ([] : List MpT)), (a3.1, a3.2).2)))))) else some (.go b3))
def g_impl_DropGenerator (K : Nat) (a0 : ((List Int) × (List MpT))) (a1 : Int) : Option (((List Int) × (List MpT)) × Int) := ((g_impl_algebraCode K (a0.1, a0.2) ([] : (List MpT))).bind fun j3 => ((g_impl_Algebra_isGenerator K (a0.1, a0.2) a1).bind fun k3 => ((g_impl_when K (!k3) 2).bind fun j4 => ((g_impl_first K ([j3, j4])).bind fun e3 => (if e3 = 0 then ((g_impl_Algebra_without K (a0.1, a0.2) ([a1])).bind fun d0 => ((g_impl_DropGenerator_l0 K a0 a1 d0 K 0 ([] : List MpT)).bind (Ex.elim (fun r => some r) (fun s => (fun (c5 : (List MpT)) => some ((d0.1, c5), 0)) s)))) else some ((([] : List Int), ([] : List MpT)), e3))))))
set_option maxRecDepth 100000 in
set_option maxHeartbeats 1000000 in
theorem g_impl_DropGenerator_ok {K : Nat} {a0 : ((List Int) × (List MpT))} {a1 : Int} {r : (((List Int) × (List MpT)) × Int)} (q0 : g_impl_DropGenerator K a0 a1 = some r) {H : FH} {w : World} {L : OL} {s0 : Value} {s1 : Value} (b8 : RdSl (tyInt .i64) H s0 a0.1) (b9 : RdSl (tySl yT) H s1 a0.2) (hS : St H w L) :
 Calls Tryz.prog 18 #[Value.agg ([s0] ++ [s1]).toArray, vI a1] w (Done (fun v G => ∃ v0 v1, v = .tuple #[v0, v1] ∧ AlgN H G v0 r.1 ∧ v1 = .int .i64 r.2) H L) := by
 have hsub := Sub.refl H
 refine calls_of_run Tryz.func18 rfl Tryz.ntmps18 rfl ?_
 unfold g_impl_DropGenerator at q0
 refine run_seq (run_region ?_)
 refine r_box (v := Value.agg ([s0] ++ [s1]).toArray) ([s0] ++ [s1]).toArray rfl rfl hS rfl ?_
 intro b1 w2 hS
 refine r_alloc (z := Value.agg ([Value.slice none 0 0] ++ [Value.slice none 0 0]).toArray) ([Value.slice none 0 0] ++ [Value.slice none 0 0]).toArray ze29.zero rfl hS rfl ?_
 intro b4 w5 hS
 refine r_assign (vI 0) rfl rfl ?_
 refine reg_nil (run_seq ?_)
 refine run_seq (run_region ?_)
 have hS : St H w5 ([(b1, .cells ([s0] ++ [s1]).toArray 29)] ++ ([(b4, .cells ([Value.slice none 0 0] ++ [Value.slice none 0 0]).toArray 29)] ++ L)) := hS.perm (perm1 (A1 := [(b4, .cells ([Value.slice none 0 0] ++ [Value.slice none 0 0]).toArray 29)]))
 obtain ⟨H7, k4, hS, c0⟩ := St.freezeBox hS
 have f6 := frozAll ([s0] ++ [s1]) 2
 have hsub := hsub.trans k4
 have b8 := b8.mono k4
 have b9 := b9.mono k4
 obtain ⟨j3, q4, q0⟩ := bind_some q0
 refine r_callFn Tryz.call85 (args2 rfl rfl) rfl (g_impl_algebraCode_ok q4 ⟨_, _, _, _, _, rfl, c0, ⟨_, _, rfl, ⟨_, rfl, b8⟩, ⟨_, rfl, b9⟩⟩, f6⟩ RdSl.nil hS) ?_
 rintro e11 w12 ⟨_, H11, rfl, h0, hS, rfl⟩
 refine ⟨_, rfl, ?_⟩
 have hsub := hsub.trans h0
 have b8 := b8.mono h0
 have b9 := b9.mono h0
 have c0 := h0.1 _ _ c0
 refine r_move (vI a1) rfl rfl ?_
 obtain ⟨k3, q5, q0⟩ := bind_some q0
 refine r_callFn Tryz.call87 (args2 rfl rfl) rfl (g_impl_Algebra_isGenerator_ok q5 ⟨_, _, _, _, _, rfl, c0, ⟨_, _, rfl, ⟨_, rfl, b8⟩, ⟨_, rfl, b9⟩⟩, f6⟩ hS) ?_
 rintro e13 w14 ⟨_, H13, rfl, h1, hS, rfl⟩
 refine ⟨_, rfl, ?_⟩
 have hsub := hsub.trans h1
 have b8 := b8.mono h1
 have b9 := b9.mono h1
 have c0 := h1.1 _ _ c0
 refine r_not (b := k3) rfl rfl ?_
 obtain ⟨j4, q6, q0⟩ := bind_some q0
 refine r_callFn Tryz.call86 (args2 rfl rfl) rfl (g_impl_when_ok q6  hS) ?_
 rintro e15 w16 ⟨_, H15, rfl, h2, hS, rfl⟩
 refine ⟨_, rfl, ?_⟩
 have hsub := hsub.trans h2
 have b8 := b8.mono h2
 have b9 := b9.mono h2
 have c0 := h2.1 _ _ c0
 refine r_lit (τ := (tyInt .i64)) sl22 ze2 rfl [vI j3, vI j4] [j3, j4] rfl rfl (parts2 rfl rfl) (rel2 rfl rfl) (by decide) (by decide) hS rfl ?_
 intro u17 H18 w19 h3 hS q7
 have hsub := hsub.trans h3
 have b8 := b8.mono h3
 have b9 := b9.mono h3
 have c0 := h3.1 _ _ c0
 obtain ⟨e3, q8, q0⟩ := bind_some q0
 refine r_callFn Tryz.call84 (args1 rfl) rfl (g_impl_first_ok q8 q7 hS) ?_
 rintro e22 w23 ⟨_, H22, rfl, h4, hS, rfl⟩
 refine ⟨_, rfl, ?_⟩
 have hsub := hsub.trans h4
 have b8 := b8.mono h4
 have b9 := b9.mono h4
 have c0 := h4.1 _ _ c0
 refine r_assign (vI e3) rfl rfl ?_
 refine reg_nil (run_seq ?_)
 refine run_region ?_
 refine r_move (vI e3) rfl rfl ?_
 refine r_neq (k := .i64) (a := e3) (b := 0) rfl rfl rfl ?_
 refine reg_nil ?_
 by_cases h5 : e3 = 0
 rw [if_pos h5] at q0
 refine run_cond_false (Eq.trans rfl (congrArg (fun b => Value.bool (!b)) (decide_eq_true h5))) ?_
 refine run_skip (run_seq ?_)
 refine run_region ?_
 refine r_move (vI a1) rfl rfl ?_
 refine r_lit (τ := (tyInt .i64)) sl105 ze3 rfl [vI a1] [a1] rfl rfl (parts1 rfl) (rel1 rfl) (by decide) (by decide) hS rfl ?_
 intro u25 H26 w27 h6 hS q9
 have hsub := hsub.trans h6
 have b8 := b8.mono h6
 have b9 := b9.mono h6
 have c0 := h6.1 _ _ c0
 obtain ⟨d0, r0, q0⟩ := bind_some q0
 refine r_callFn Tryz.call88 (args2 rfl rfl) rfl (g_impl_Algebra_without_ok r0 ⟨_, _, _, _, _, rfl, c0, ⟨_, _, rfl, ⟨_, rfl, b8⟩, ⟨_, rfl, b9⟩⟩, f6⟩ q9 hS) ?_
 rintro e30 w31 ⟨_, j5, rfl, h7, hS, ⟨a5, c8, rfl, b2, b6⟩⟩
 refine ⟨_, rfl, ?_⟩
 have a05 := b2
 have c6 : RdF (tyInt .i64) H j5 a5 d0.1 := RdSl.mono (new_anti hsub) b2
 have b2 := RdSl.old b2
 have a06 := b6
 have d9 : RdF (tyInt .i64) H j5 c8 d0.2 := RdSl.mono (new_anti hsub) b6
 have b6 := RdSl.old b6
 have hsub := hsub.trans h7
 have b8 := b8.mono h7
 have b9 := b9.mono h7
 have c0 := h7.1 _ _ c0
 refine r_move (Value.tuple #[a5, c8]) rfl rfl ?_
 refine r_extract (a5) rfl rfl rfl ?_
 refine r_extract (c8) rfl rfl rfl ?_
 refine r_assign (a5) rfl rfl ?_
 refine r_assign (c8) rfl rfl ?_
 refine reg_nil (run_seq ?_)
 refine run_region ?_
 refine r_move (a5) rfl rfl ?_
 refine r_build ([a5] ++ [Value.slice none 0 0]) bu29 (parts1 rfl) (fill_cons rfl b2.cellsL rfl (Nat.le_of_ble_eq_true rfl) (fill_nil rfl)) rfl ?_
 refine r_alloc (z := Value.agg ([Value.slice none 0 0] ++ [Value.slice none 0 0]).toArray) ([Value.slice none 0 0] ++ [Value.slice none 0 0]).toArray ze29.zero rfl hS rfl ?_
 intro c3 w37 hS
 refine r_storeAll (v := Value.agg ([a5] ++ [Value.slice none 0 0]).toArray) (vs := ([a5] ++ [Value.slice none 0 0]).toArray) (cs := ([Value.slice none 0 0] ++ [Value.slice none 0 0]).toArray) ty29 rfl rfl rfl hS rfl (one_app (one1 b2.isOne) (one1 rfl)) rfl ?_
 intro w39 hS
 refine reg_nil (run_seq ?_)
 refine run_seq (run_region ?_)
 refine r_fieldAddr fld29_1 rfl rfl ?_
 refine r_loadOne (s1) ty27 rfl (hS.froz _ _ c0) (f6 1 (show 1 < 2 by decide)) rfl ?_
 have a07 := b9.bound
 refine r_lenRd sl27 rfl b9 rfl ?_
 refine r_move (vI 0) rfl rfl ?_
 refine reg_nil (run_block ?_)
 have k5 : OwnSlN (tyFr H (tySl yT)) 47 j5 (Value.slice none 0 0) ([] : List MpT) ([]) (roots [a5] ++ ([] : List Nat)) := OwnSlN.nil _ _ _ (by rw [List.append_nil]; exact roots_nodup _) (by rw [List.append_nil]; exact RdSl.rootsIn b2)
 obtain ⟨k6, b5, e8⟩ := bind_some q0
 refine loop_ind (id := 0) (fun k f w => ∃ (a9 : Int) (b3 : (List MpT)) (H1 : FH) (a6 : OL) (a4 : Value), g_impl_DropGenerator_l0 K a0 a1 d0 k a9 b3 = some k6 ∧ Sub H H1 ∧ St H1 w (a6 ++ ([(c3, .cells ([a5] ++ [a4]).toArray 29)] ++ ([(b4, .cells ([Value.slice none 0 0] ++ [Value.slice none 0 0]).toArray 29)] ++ L))) ∧ 0 ≤ a9 ∧ OwnSlN (tyFr H (tySl yT)) 47 H1 a4 b3 a6 (roots [a5] ++ ([] : List Nat)) ∧ RdF (tyInt .i64) H H1 a5 d0.1 ∧ RdF (tyInt .i64) H H1 c8 d0.2 ∧ RdSl (tyInt .i64) H1 s0 a0.1 ∧ RdSl (tySl yT) H1 s1 a0.2 ∧ RdSl (tyInt .i64) H1 a5 d0.1 ∧ RdSl (tyInt .i64) H1 c8 d0.2 ∧ H1 b1 = some (.cells ([s0] ++ [s1]).toArray 29) ∧ ev f (.tmp 1) = vI a1 ∧ ev f (.tmp 2) = vP b1 ∧ ev f (.tmp 4) = vP b4 ∧ ev f (.tmp 7) = a5 ∧ ev f (.tmp 8) = c8 ∧ ev f (.tmp 9) = vP c3 ∧ ev f (.tmp 34) = s1 ∧ ev f (.tmp 35) = vI (a0.2.length : Int) ∧ ev f (.tmp 36) = vI a9) (fun f w => ∃ (c5 : (List MpT)) (H1 : FH) (c1 : OL) (a7 : Value), k6 = .go c5 ∧ Sub H H1 ∧ St H1 w (c1 ++ ([(c3, .cells ([a5] ++ [a7]).toArray 29)] ++ ([(b4, .cells ([Value.slice none 0 0] ++ [Value.slice none 0 0]).toArray 29)] ++ L))) ∧ OwnSlN (tyFr H (tySl yT)) 47 H1 a7 c5 c1 (roots [a5] ++ ([] : List Nat)) ∧ RdF (tyInt .i64) H H1 a5 d0.1 ∧ RdSl (tyInt .i64) H1 a5 d0.1 ∧ ev f (.tmp 4) = vP b4 ∧ ev f (.tmp 9) = vP c3) rfl ?_ ?_ K ?_ ?_
 rintro f w ⟨a9, b3, H1, a6, a4, b5, _⟩
 rw [g_impl_DropGenerator_l0] at b5; cases b5
 rintro k a08 a09 q3 w9 ⟨a9, b3, d7, a6, a4, b5, hsub, hS, w8, b7, c6, d9, b8, b9, b2, b6, c0, k1, g3, g4, g5, g6, g7, f7, f8, d8⟩
 rw [g_impl_DropGenerator_l0] at b5
 refine run_seq (run_region ?_)
 refine r_lss (k := .i64) (a := a9) (b := (a0.2.length : Int)) (by exact d8) (by exact f8) rfl ?_
 refine reg_nil (run_seq ?_)
 by_cases h8 : a9 < (a0.2.length : Int)
 rw [if_pos h8] at b5
 refine run_cond_true (Eq.trans rfl (congrArg Value.bool (decide_eq_true h8))) ?_
 refine run_skip (run_seq ?_)
 refine run_block (run_seq ?_)
 refine run_region ?_
 refine r_move (vI a9) (by exact d8) rfl ?_
 obtain ⟨b42, o42, a10, E42, _, r1, r2, ⟨b0, rfl, e6⟩, r3⟩ := b9.elem (i := a9) (by omega) (by omega)
 refine r_indexAt sl27 rfl (by exact f7) r1 (by exact d8) (by omega) (by omega) rfl ?_
 refine r_loadAgg ([b0]) ty47 rfl (hS.froz _ _ r2) rfl r3 rfl ?_
 refine r_alloc (z := Value.agg ([Value.slice none 0 0]).toArray) ([Value.slice none 0 0]).toArray ze47.zero rfl hS rfl ?_
 intro c4 w44 hS
 refine r_assign (vI a9) rfl rfl ?_
 refine r_storeAll (v := Value.agg ([b0]).toArray) (vs := ([b0]).toArray) (cs := ([Value.slice none 0 0]).toArray) ty47 rfl rfl rfl hS rfl (one1 e6.isOne) rfl ?_
 intro w46 hS
 refine reg_nil (run_seq ?_)
 obtain ⟨j2, r4, b5⟩ := bind_some b5
 obtain ⟨g9, m8, b5⟩ := bind_some b5
 obtain ⟨a3, m9, b5⟩ := bind_some b5
 have hsubO := hsub
 refine run_draw 14 (tabL [(42, MP.eq (Value.pointer (some ⟨b1, 0 + 0, none⟩))), (43, MP.eq (s0)), (44, MP.eq (Value.agg ([b0]).toArray)), (45, MP.mp .i64 (j2)), (46, MP.eq (c8)), (47, MP.eq (a5)), (48, MP.mp .i64 (g9)), (49, MP.rep (RepT.fr d7 (R.t2 (R.agg (tySl yT)) (R.int .i64))) (a3)), (41, MP.rep (RepT.fr d7 (R.t2 (R.agg (tySl yT)) (R.int .i64))) ((a3.1, a3.2))), (50, MP.rep (RepT.fr d7 (R.agg (tySl yT))) ((a3.1, a3.2).1)), (51, MP.eq (vI ((a3.1, a3.2).2))), (12, MP.box (.cells ([Value.slice none 0 0]).toArray 47)), (13, MP.eq (vI ((a3.1, a3.2).2)))]) [Co.st 11 12 12 9 50 (objA 47)] mixed rfl (conOk_num (ns := [(11, 12, 12, 9, 50)]) rfl rfl) rfl hS (hop_q rfl ?_ (hop_q rfl ?_ (hop_q rfl ?_ (hop_q rfl ?_ (hop_q rfl ?_ (hop_q rfl ?_ (hop_q rfl ?_ (hop_q rfl ?_ (hop_q rfl ?_ (hop_q rfl ?_ (hop_q rfl ?_ (hop_q rfl ?_ (hop_s rfl ?_ (hop_q rfl ?_ hop_nil)))))))))))))) ?_
 intro f47 w48 x0 X50 r5 hS r6 a11 hcq
 have hsub := Sub.refl x0
 have hsubA := hsubO.trans r5
 refine r_fieldAddr fld29_0 (evT (r6 2 rfl) g3) rfl ?_
 exact reg_nil ⟨42, _, _, rfl, rfl, hsub, hS, rfl⟩
 intro x1 w57 x2 X59 k7 hS a12 r7 hcq
 have hsub := Sub.refl x2
 have hsubA := hsubO.trans k7
 have c0 := k7.1 _ _ c0
 have x3 : ev x1 (.tmp 42) = Value.pointer (some ⟨b1, 0 + 0, none⟩) := r7 0 42 rfl rfl
 refine r_loadOne (s0) ty22 x3 (hS.froz _ _ c0) (f6 0 (show 0 < 2 by decide)) rfl ?_
 exact reg_nil ⟨43, _, _, rfl, rfl, hsub, hS, rfl⟩
 intro x4 w66 x5 X68 r8 hS r9 a13 hcq
 have hsub := Sub.refl x5
 have hsubA := hsubO.trans r8
 have x6 : ev x4 (.tmp 11) = vP c4 := Eq.trans (r9 11 rfl) rfl
 refine r_loadAll ty47 x6 (hS.get (mR mL)) rfl rfl ?_
 exact reg_nil ⟨44, _, _, rfl, rfl, hsub, hS, rfl⟩
 intro x7 w75 x8 X77 k8 hS a14 s2 hcq
 have hsub := Sub.refl x8
 have hsubA := hsubO.trans k8
 have e6 := e6.mono k8
 have x9 : ev x7 (.tmp 44) = Value.agg ([b0]).toArray := s2 2 44 rfl rfl
 refine r_callFn Tryz.call90 (args1 x9) rfl (g_impl_sumOf_ok r4 e6 hS) ?_
 rintro e84 w85 ⟨m84, H84, C84, rfl, s3, hS, s4⟩
 refine ⟨_, rfl, ?_⟩
 have hsub := hsub.trans s3
 obtain ⟨H87, s5, hS, s6⟩ := s4.freeze hS
 have hsub := hsub.trans s5
 exact reg_nil ⟨45, _, _, rfl, rfl, hsub, hS, s6⟩
 intro f89 w90 y0 X92 s7 hS s8 a15 hcq
 have hsub := Sub.refl y0
 have hsubA := hsubO.trans s7
 refine r_move (c8) (evT (s8 8 rfl) g6) rfl ?_
 exact reg_nil ⟨46, _, _, rfl, rfl, hsub, hS, rfl⟩
 intro f98 w99 s9 a16 n0 hS n1 y7 hcq
 have hsub := Sub.refl s9
 have hsubA := hsubO.trans n0
 refine r_move (a5) (evT (n1 7 rfl) g5) rfl ?_
 exact reg_nil ⟨47, _, _, rfl, rfl, hsub, hS, rfl⟩
 intro h9 a17 k9 a18 f1 hS y8 f2 hcq
 have hsub := Sub.refl k9
 have hsubA := hsubO.trans f1
 have b8 := b8.mono f1
 have b2 := b2.mono f1
 have b6 := b6.mono f1
 have t0 : ev h9 (.tmp 43) = s0 := f2 1 43 rfl rfl
 obtain ⟨t1, l0⟩ : ∃ v, ev h9 (.tmp 45) = v := ⟨_, rfl⟩
 have n2 : RdMp .i64 k9 t1 (j2) := l0 ▸ (f2 3 45 rfl rfl)
 have t4 : ev h9 (.tmp 46) = c8 := f2 4 46 rfl rfl
 have t5 : ev h9 (.tmp 47) = a5 := f2 5 47 rfl rfl
 refine r_callFn Tryz.call89 (args4 t0 l0 t4 t5) rfl (g_impl_renumbered_ok m8 b8 n2 b6 b2 hS) ?_
 rintro a19 a20 ⟨a21, a22, a23, rfl, n3, hS, n4⟩
 refine ⟨_, rfl, ?_⟩
 have hsub := hsub.trans n3
 obtain ⟨a24, n5, hS, n6⟩ := n4.freeze hS
 have hsub := hsub.trans n5
 exact reg_nil ⟨48, _, _, rfl, rfl, hsub, hS, n6⟩
 intro t6 a25 l1 a26 j6 hS y9 n7 hcq
 have hsub := Sub.refl l1
 have hsubA := hsubO.trans j6
 obtain ⟨t7, l2⟩ : ∃ v, ev t6 (.tmp 48) = v := ⟨_, rfl⟩
 have n8 : RdMp .i64 l1 t7 (g9) := l2 ▸ (n7 6 48 rfl rfl)
 refine r_callFn Tryz.call91 (args1 l2) rfl (g_impl_sum_form_ok m9 n8 hS) ?_
 rintro a27 a28 ⟨t8, a29, rfl, n9, hS, i0⟩
 refine ⟨t8, rfl, ?_⟩
 have i0 := ((R.t2 (R.agg (tySl yT)) (R.int .i64))).mono (new_anti (Sub.trans j6 hsub)) i0
 have hsub := hsub.trans n9
 exact reg_nil ⟨49, _, _, rfl, rfl, hsub, hS, i0⟩
 intro t9 a30 i5 a31 o0 hS z0 o1 hcq
 have hsub := Sub.refl i5
 have hsubA := hsubO.trans o0
 obtain ⟨u0, l3⟩ : ∃ v, ev t9 (.tmp 49) = v := ⟨_, rfl⟩
 have o2 : (RepT.fr d7 (R.t2 (R.agg (tySl yT)) (R.int .i64))).p i5 u0 (a3) := l3 ▸ (o1 7 49 rfl rfl)
 obtain ⟨y1, y2, rfl, ⟨_, rfl, ⟨f9, rfl, d3⟩⟩, rfl⟩ := o2
 have o3 := d3
 have z1 : RdF yT H i5 f9 a3.1 := RdSl.mono (new_anti hsubO) d3
 have d3 := RdSl.old d3
 refine r_move (Value.tuple #[Value.agg ([f9]).toArray, vI a3.2]) l3 rfl ?_
 exact reg_nil ⟨41, _, _, rfl, rfl, hsub, hS, ⟨_, _, rfl, ⟨_, rfl, ⟨_, rfl, o3⟩⟩, rfl⟩⟩
 intro u1 a32 i6 a33 o4 hS z2 o5 hcq
 have hsub := Sub.refl i6
 have hsubA := hsubO.trans o4
 obtain ⟨u2, l4⟩ : ∃ v, ev u1 (.tmp 41) = v := ⟨_, rfl⟩
 have o6 : (RepT.fr d7 (R.t2 (R.agg (tySl yT)) (R.int .i64))).p i6 u2 ((a3.1, a3.2)) := l4 ▸ (o5 8 41 rfl rfl)
 obtain ⟨y3, y4, rfl, ⟨_, rfl, ⟨g0, rfl, d4⟩⟩, rfl⟩ := o6
 have o7 := d4
 have z3 : RdF yT H i6 g0 ((a3.1, a3.2).1) := RdSl.mono (new_anti hsubO) d4
 have d4 := RdSl.old d4
 refine r_extract (Value.agg ([g0]).toArray) l4 rfl rfl ?_
 exact reg_nil ⟨50, _, _, rfl, rfl, hsub, hS, ⟨_, rfl, ⟨_, rfl, o7⟩⟩⟩
 intro u3 a34 i7 a35 o8 hS z4 o9 hcq
 have hsub := Sub.refl i7
 have hsubA := hsubO.trans o8
 obtain ⟨u4, l5⟩ : ∃ v, ev u3 (.tmp 41) = v := ⟨_, rfl⟩
 have p0 : (RepT.fr d7 (R.t2 (R.agg (tySl yT)) (R.int .i64))).p i7 u4 ((a3.1, a3.2)) := l5 ▸ (o9 8 41 rfl rfl)
 obtain ⟨y5, y6, rfl, ⟨_, rfl, ⟨i8, rfl, d5⟩⟩, rfl⟩ := p0
 have z5 := d5
 have z6 : RdF yT H i7 i8 ((a3.1, a3.2).1) := RdSl.mono (new_anti hsubO) d5
 have d5 := RdSl.old d5
 refine r_extract (vI ((a3.1, a3.2).2)) l5 rfl rfl ?_
 exact reg_nil ⟨51, _, _, rfl, rfl, hsub, hS, rfl⟩
 intro a36 a37 u5 a38 p1 hS z7 z8 hcq
 have hsub := Sub.refl u5
 have hsubA := hsubO.trans p1
 refine r_alloc (z := Value.agg ([Value.slice none 0 0]).toArray) ([Value.slice none 0 0]).toArray ze47.zero rfl hS rfl ?_
 intro a39 a40 hS
 exact reg_nil ⟨12, _, _, rfl, rfl, hsub, hS, ⟨_, rfl⟩⟩
 intro e4 u6 i1 u7 p2 hS z9 j7 hcq
 have hsub := Sub.refl i1
 have hsubA := hsubO.trans p2
 obtain ⟨l6, g1⟩ := j7 11 12 rfl rfl
 have g1 : e4 12 = vP l6 := g1
 have hS : St i1 u6 (ptrRes (.cells ([Value.slice none 0 0]).toArray 47) (e4 12) ++ (u7 ++ ([(c4, .cells ([b0]).toArray 47)] ++ (a6 ++ ([(c3, .cells ([a5] ++ [a4]).toArray 29)] ++ ([(b4, .cells ([Value.slice none 0 0] ++ [Value.slice none 0 0]).toArray 29)] ++ L)))))) := hS
 rw [g1] at hS
 have u8 : ev e4 (.tmp 12) = vP l6 := g1
 obtain ⟨u9, i9⟩ : ∃ v, ev e4 (.tmp 50) = v := ⟨_, rfl⟩
 have p3 : (RepT.fr d7 (R.agg (tySl yT))).p i1 u9 ((a3.1, a3.2).1) := i9 ▸ (j7 9 50 rfl rfl)
 obtain ⟨_, rfl, ⟨e7, rfl, d6⟩⟩ := p3
 have a00 := d6
 have a01 : RdF yT H i1 e7 ((a3.1, a3.2).1) := RdSl.mono (new_anti hsubO) d6
 have d6 := RdSl.old d6
 refine r_storeAll (v := Value.agg ([e7]).toArray) (vs := ([e7]).toArray) (cs := ([Value.slice none 0 0]).toArray) ty47 u8 i9 rfl hS rfl (one1 d6.isOne) rfl ?_
 intro a41 hS
 have v2 : e4 50 = Value.agg ([e7]).toArray := i9
 exact reg_nil ⟨_, rfl, rfl, hsub, by show St _ _ (ptrRes (objA 47 (e4 50)) (e4 12) ++ _); rw [g1, v2]; exact hS, trivial⟩
 intro v3 a42 v4 a43 p4 hS a02 p5 hcq
 have hsub := Sub.refl v4
 have hsubA := hsubO.trans p4
 have v5 : ev v3 (.tmp 51) = vI ((a3.1, a3.2).2) := p5 10 51 rfl rfl
 refine r_assign (vI ((a3.1, a3.2).2)) v5 rfl ?_
 exact reg_nil ⟨13, _, _, rfl, rfl, hsub, hS, rfl⟩
 intro e0 j0 e1 d1 hS c9 i2 hcq
 have hS : St e1 j0 ((ptrRes (objA 47 (e0 50)) (e0 12) ++ ([])) ++ ([(c4, .cells ([b0]).toArray 47)] ++ (a6 ++ ([(c3, .cells ([a5] ++ [a4]).toArray 29)] ++ ([(b4, .cells ([Value.slice none 0 0] ++ [Value.slice none 0 0]).toArray 29)] ++ L))))) := hS
 have hsub := hsub.trans d1
 have b8 := b8.mono d1
 have b9 := b9.mono d1
 have b2 := b2.mono d1
 have c6 := c6.mono d1
 have b6 := b6.mono d1
 have d9 := d9.mono d1
 have c0 := d1.1 _ _ c0
 have j1 := evT (c9 1 rfl) k1
 have l7 := evT (c9 2 rfl) g3
 have e9 := evT (c9 4 rfl) g4
 have l9 := evT (c9 7 rfl) g5
 have m0 := evT (c9 8 rfl) g6
 have i3 := evT (c9 9 rfl) g7
 have v6 : ev e0 (.tmp 10) = vI a9 := Eq.trans (c9 10 rfl) rfl
 have m1 := evT (c9 34 rfl) f7
 have m2 := evT (c9 35 rfl) f8
 have m3 := evT (c9 36 rfl) d8
 obtain ⟨v7, m4⟩ : ∃ v, ev e0 (.tmp 50) = v := ⟨_, rfl⟩
 have p6 : (RepT.fr d7 (R.agg (tySl yT))).p e1 v7 ((a3.1, a3.2).1) := m4 ▸ (i2 9 50 (by decide) rfl)
 obtain ⟨_, rfl, ⟨a8, rfl, c7⟩⟩ := p6
 have p7 := c7
 have p8 : RdF yT H e1 a8 ((a3.1, a3.2).1) := RdSl.mono (new_anti hsubO) c7
 have c7 := RdSl.old c7
 have m5 : ev e0 (.tmp 13) = vI ((a3.1, a3.2).2) := i2 13 13 (by decide) rfl
 have b7 := OwnSlN.keep (rootIn_fr H (rootIn_sl _)) b7 d1 (RdF.rootsOut p7) (RdSl.rootsIn c7) (roots_nodup _)
 obtain ⟨c2, e5⟩ := i2 11 12 (by decide) rfl
 have e5 : e0 12 = vP c2 := e5
 rw [e5] at hS
 have e5 : ev e0 (.tmp 12) = _ := e5
 have v8 : e0 50 = Value.agg ([a8]).toArray := m4
 rw [v8] at hS
 refine reg_nil (run_block ?_)
 refine run_seq (run_region ?_)
 refine r_move (vI ((a3.1, a3.2).2)) (by exact m5) rfl ?_
 refine r_neq (k := .i64) (a := (a3.1, a3.2).2) (b := 0) rfl rfl rfl ?_
 refine r_assign (Value.bool (!decide ((a3.1, a3.2).2 = 0))) rfl rfl ?_
 refine reg_nil ?_
 by_cases f3 : (a3.1, a3.2).2 = 0
 rw [if_pos f3] at b5
 refine run_cond_false (Eq.trans rfl (congrArg (fun b => Value.bool (!b)) (decide_eq_true f3))) ?_
 refine run_seq (run_region ?_)
 refine r_move (vI a9) (by exact v6) rfl ?_
 refine r_move (vI a1) (by exact j1) rfl ?_
 refine r_neq (k := .i64) (a := a9) (b := a1) rfl rfl rfl ?_
 refine r_assign (Value.bool (!decide (a9 = a1))) rfl rfl ?_
 refine reg_nil ?_
 by_cases f4 : a9 = a1
 rw [if_pos f4] at b5
 refine run_cond_false (Eq.trans rfl (congrArg (fun b => Value.bool (!b)) (decide_eq_true f4))) ?_
 refine run_seq (run_region ?_)
 refine r_fieldAddr fld47_0 (by exact e5) rfl ?_
 refine r_loadOne (a8) ty45 rfl (hS.get mL) rfl rfl ?_
 have a03 := c7.bound
 refine r_lenRd sl45 rfl c7 rfl ?_
 refine r_gtr (k := .i64) (a := (((a3.1, a3.2).1).length : Int)) (b := 0) rfl rfl rfl ?_
 refine r_assign (Value.bool (decide (0 < (((a3.1, a3.2).1).length : Int)))) rfl rfl ?_
 refine reg_nil ?_
 by_cases f5 : 0 < (((a3.1, a3.2).1).length : Int)
 rw [if_pos f5] at b5
 refine run_cond_true (Eq.trans rfl (congrArg Value.bool (decide_eq_true f5))) ?_
 refine run_seq (run_region ?_)
 refine r_build0 (Value.agg ([Value.slice none 0 0] ++ [Value.slice none 0 0]).toArray) bz29 rfl ?_
 have hS : St e1 j0 ([(b4, .cells ([Value.slice none 0 0] ++ [Value.slice none 0 0]).toArray 29)] ++ ([(c2, .cells ([a8]).toArray 47)] ++ ([(c4, .cells ([b0]).toArray 47)] ++ (a6 ++ ([(c3, .cells ([a5] ++ [a4]).toArray 29)] ++ L))))) := hS.perm (perm4 (A1 := [(c2, .cells ([a8]).toArray 47)]) (A2 := [(c4, .cells ([b0]).toArray 47)]) (A3 := a6) (A4 := [(c3, .cells ([a5] ++ [a4]).toArray 29)]))
 refine r_storeAll (v := Value.agg ([Value.slice none 0 0] ++ [Value.slice none 0 0]).toArray) (vs := ([Value.slice none 0 0] ++ [Value.slice none 0 0]).toArray) (cs := ([Value.slice none 0 0] ++ [Value.slice none 0 0]).toArray) ty29 (by exact e9) rfl rfl hS rfl (one_app (one1 rfl) (one1 rfl)) rfl ?_
 intro v9 hS
 have hS : St e1 v9 ([(c2, .cells ([a8]).toArray 47)] ++ ([(c4, .cells ([b0]).toArray 47)] ++ (a6 ++ ([(c3, .cells ([a5] ++ [a4]).toArray 29)] ++ ([(b4, .cells ([Value.slice none 0 0] ++ [Value.slice none 0 0]).toArray 29)] ++ L))))) := hS.perm (perm4 (A1 := [(c2, .cells ([a8]).toArray 47)]) (A2 := [(c4, .cells ([b0]).toArray 47)]) (A3 := a6) (A4 := [(c3, .cells ([a5] ++ [a4]).toArray 29)])).symm
 refine r_assign (vI 5) rfl rfl ?_
 refine reg_nil ?_
 refine run_ret (vs := [Value.agg ([Value.slice none 0 0] ++ [Value.slice none 0 0]).toArray, vI 5]) Tryz.func18 ⟨⟨_, (by exact e9), run_loadAll ty29 (hS.get (mR (mR (mR (mR mL))))) rfl⟩, rfl, trivial⟩ ?_
 have hz := Option.some.inj b5
 subst hz
 dsimp only [Ex.elim] at e8
 have hz := Option.some.inj e8
 subst hz
 exact ⟨_, _, rfl, hsub, (St.dropA (A := [(b4, .cells ([Value.slice none 0 0] ++ [Value.slice none 0 0]).toArray 29)]) (St.dropA (A := [(c3, .cells ([a5] ++ [a4]).toArray 29)]) (St.dropA (A := a6) (St.dropA (A := [(c4, .cells ([b0]).toArray 47)]) (St.dropA (A := [(c2, .cells ([a8]).toArray 47)]) hS))))), ⟨_, _, rfl, ⟨_, _, rfl, RdSl.nil, RdN.nil (by first | exact List.nodup_nil | (rw [List.append_nil]; exact roots_nodup _))⟩, rfl⟩⟩
 rw [if_neg f5] at b5
 refine run_cond_false (Eq.trans rfl (congrArg Value.bool (decide_eq_false f5))) ?_
 refine run_skip (run_inBlock ?_)
 refine run_inBlock (run_region ?_)
 refine r_add (a9 + 1) (by exact m3) rfl (IntWalk.i64_in _ (by omega)) rfl ?_
 refine r_move (vI (a9 + 1)) rfl rfl ?_
 refine reg_nil ?_
 have hS := St.dropA (A := [(c2, .cells ([a8]).toArray 47)]) hS
 have hS := St.dropA (A := [(c4, .cells ([b0]).toArray 47)]) hS
 exact q3 _ _ ⟨(a9 + 1), b3, e1, a6, a4, b5, hsub, hS, (by omega), b7.dropX, c6, d9, b8, b9, b2, b6, c0, j1, l7, e9, l9, m0, i3, m1, m2, rfl⟩
 rw [if_neg f4] at b5
 refine run_cond_true (Eq.trans rfl (congrArg (fun b => Value.bool (!b)) (decide_eq_false f4))) ?_
 refine run_region ?_
 refine r_fieldAddr fld29_1 (by exact i3) rfl ?_
 refine r_loadOne (a4) ty27 rfl (hS.get (mR (mR (mR mL)))) rfl rfl ?_
 refine r_loadAll ty47 (by exact e5) (hS.get mL) rfl rfl ?_
 refine r_lit (τ := tyRoot (tyFr H (tySl yT))) sl27 ze47 rfl [Value.agg ([a8]).toArray] [((a3.1, a3.2).1, roots [a8])] rfl rfl (parts1 rfl) (rel1 ⟨⟨_, rfl, p8⟩, rfl⟩) (by decide) (by decide) hS rfl ?_
 intro a44 g2 w0 d2 hS p9
 have hsub := hsub.trans d2
 have b8 := b8.mono d2
 have b9 := b9.mono d2
 have b2 := b2.mono d2
 have c6 := c6.mono d2
 have b6 := b6.mono d2
 have d9 := d9.mono d2
 have b7 := b7.mono d2
 have c0 := d2.1 _ _ c0
 obtain ⟨q1, b5⟩ := gd b5
 have hS : St g2 w0 (a6 ++ ([(c2, .cells ([a8]).toArray 47)] ++ ([(c4, .cells ([b0]).toArray 47)] ++ ([(c3, .cells ([a5] ++ [a4]).toArray 29)] ++ ([(b4, .cells ([Value.slice none 0 0] ++ [Value.slice none 0 0]).toArray 29)] ++ L))))) := hS.perm (perm2 (A1 := [(c2, .cells ([a8]).toArray 47)]) (A2 := [(c4, .cells ([b0]).toArray 47)]))
 refine r_appendN (τ := (tyFr H (tySl yT))) (R := roots [a8]) ap27 rfl rfl rfl b7 hS p9 (by have h := q1; simpa using h) rfl ?_
 intro i4 m6 f0 j8 hS
 have hS : St g2 m6 ([(c2, .cells ([a8]).toArray 47)] ++ ([(c4, .cells ([b0]).toArray 47)] ++ (f0 ++ ([(c3, .cells ([a5] ++ [a4]).toArray 29)] ++ ([(b4, .cells ([Value.slice none 0 0] ++ [Value.slice none 0 0]).toArray 29)] ++ L))))) := hS.perm (perm2 (A1 := [(c2, .cells ([a8]).toArray 47)]) (A2 := [(c4, .cells ([b0]).toArray 47)])).symm
 refine r_fieldAddr fld29_1 (by exact i3) rfl ?_
 have hS : St g2 m6 ([(c3, .cells ([a5] ++ [a4]).toArray 29)] ++ ([(c2, .cells ([a8]).toArray 47)] ++ ([(c4, .cells ([b0]).toArray 47)] ++ (f0 ++ ([(b4, .cells ([Value.slice none 0 0] ++ [Value.slice none 0 0]).toArray 29)] ++ L))))) := hS.perm (perm3 (A1 := [(c2, .cells ([a8]).toArray 47)]) (A2 := [(c4, .cells ([b0]).toArray 47)]) (A3 := f0))
 refine r_store1 (v := i4) (cs := ([a5] ++ [a4]).toArray) (cs' := ([a5] ++ [i4]).toArray) ty27 rfl rfl hS j8.own.isOne rfl (Nat.le_of_ble_eq_true rfl) rfl ?_
 intro w1 hS
 have hS : St g2 w1 ([(c2, .cells ([a8]).toArray 47)] ++ ([(c4, .cells ([b0]).toArray 47)] ++ (f0 ++ ([(c3, .cells ([a5] ++ [i4]).toArray 29)] ++ ([(b4, .cells ([Value.slice none 0 0] ++ [Value.slice none 0 0]).toArray 29)] ++ L))))) := hS.perm (perm3 (A1 := [(c2, .cells ([a8]).toArray 47)]) (A2 := [(c4, .cells ([b0]).toArray 47)]) (A3 := f0)).symm
 refine reg_nil (run_inBlock ?_)
 refine run_inBlock (run_region ?_)
 refine r_add (a9 + 1) (by exact m3) rfl (IntWalk.i64_in _ (by omega)) rfl ?_
 refine r_move (vI (a9 + 1)) rfl rfl ?_
 refine reg_nil ?_
 have hS := St.dropA (A := [(c2, .cells ([a8]).toArray 47)]) hS
 have hS := St.dropA (A := [(c4, .cells ([b0]).toArray 47)]) hS
 exact q3 _ _ ⟨(a9 + 1), (b3 ++ [(a3.1, a3.2).1]), g2, f0, i4, b5, hsub, hS, (by omega), j8, c6, d9, b8, b9, b2, b6, c0, j1, l7, e9, l9, m0, i3, m1, m2, rfl⟩
 rw [if_neg f3] at b5
 refine run_cond_true (Eq.trans rfl (congrArg (fun b => Value.bool (!b)) (decide_eq_false f3))) ?_
 refine run_seq (run_region ?_)
 refine r_build0 (Value.agg ([Value.slice none 0 0] ++ [Value.slice none 0 0]).toArray) bz29 rfl ?_
 refine r_move (vI ((a3.1, a3.2).2)) (by exact m5) rfl ?_
 have hS : St e1 j0 ([(b4, .cells ([Value.slice none 0 0] ++ [Value.slice none 0 0]).toArray 29)] ++ ([(c2, .cells ([a8]).toArray 47)] ++ ([(c4, .cells ([b0]).toArray 47)] ++ (a6 ++ ([(c3, .cells ([a5] ++ [a4]).toArray 29)] ++ L))))) := hS.perm (perm4 (A1 := [(c2, .cells ([a8]).toArray 47)]) (A2 := [(c4, .cells ([b0]).toArray 47)]) (A3 := a6) (A4 := [(c3, .cells ([a5] ++ [a4]).toArray 29)]))
 refine r_storeAll (v := Value.agg ([Value.slice none 0 0] ++ [Value.slice none 0 0]).toArray) (vs := ([Value.slice none 0 0] ++ [Value.slice none 0 0]).toArray) (cs := ([Value.slice none 0 0] ++ [Value.slice none 0 0]).toArray) ty29 (by exact e9) rfl rfl hS rfl (one_app (one1 rfl) (one1 rfl)) rfl ?_
 intro w3 hS
 have hS : St e1 w3 ([(c2, .cells ([a8]).toArray 47)] ++ ([(c4, .cells ([b0]).toArray 47)] ++ (a6 ++ ([(c3, .cells ([a5] ++ [a4]).toArray 29)] ++ ([(b4, .cells ([Value.slice none 0 0] ++ [Value.slice none 0 0]).toArray 29)] ++ L))))) := hS.perm (perm4 (A1 := [(c2, .cells ([a8]).toArray 47)]) (A2 := [(c4, .cells ([b0]).toArray 47)]) (A3 := a6) (A4 := [(c3, .cells ([a5] ++ [a4]).toArray 29)])).symm
 refine r_assign (vI ((a3.1, a3.2).2)) rfl rfl ?_
 refine reg_nil ?_
 refine run_ret (vs := [Value.agg ([Value.slice none 0 0] ++ [Value.slice none 0 0]).toArray, vI ((a3.1, a3.2).2)]) Tryz.func18 ⟨⟨_, (by exact e9), run_loadAll ty29 (hS.get (mR (mR (mR (mR mL))))) rfl⟩, rfl, trivial⟩ ?_
 have hz := Option.some.inj b5
 subst hz
 dsimp only [Ex.elim] at e8
 have hz := Option.some.inj e8
 subst hz
 exact ⟨_, _, rfl, hsub, (St.dropA (A := [(b4, .cells ([Value.slice none 0 0] ++ [Value.slice none 0 0]).toArray 29)]) (St.dropA (A := [(c3, .cells ([a5] ++ [a4]).toArray 29)]) (St.dropA (A := a6) (St.dropA (A := [(c4, .cells ([b0]).toArray 47)]) (St.dropA (A := [(c2, .cells ([a8]).toArray 47)]) hS))))), ⟨_, _, rfl, ⟨_, _, rfl, RdSl.nil, RdN.nil (by first | exact List.nodup_nil | (rw [List.append_nil]; exact roots_nodup _))⟩, rfl⟩⟩
 rw [if_neg h8] at b5
 refine run_cond_false (Eq.trans rfl (congrArg Value.bool (decide_eq_false h8))) ?_
 refine run_exit rfl ?_
 have hz := Option.some.inj b5
 subst hz
 exact w9 _ _ ⟨b3, d7, a6, a4, rfl, hsub, hS, b7, c6, b2, g4, g7⟩
 exact ⟨0, ([] : List MpT), j5, ([]), (Value.slice none 0 0), b5, hsub, hS, (by omega), k5, c6, d9, b8, b9, b2, b6, c0, rfl, rfl, rfl, rfl, rfl, rfl, rfl, rfl, rfl⟩
 rintro a45 w4 ⟨c5, m7, c1, a7, rfl, hsub, hS, e2, c6, b2, g8, k2⟩
 dsimp only [Ex.elim] at e8
 refine run_seq (run_region ?_)
 refine r_loadAll ty29 (by exact k2) (hS.get (mR mL)) rfl rfl ?_
 have hS : St m7 w4 ([(b4, .cells ([Value.slice none 0 0] ++ [Value.slice none 0 0]).toArray 29)] ++ (c1 ++ ([(c3, .cells ([a5] ++ [a7]).toArray 29)] ++ L))) := hS.perm (perm2 (A1 := c1) (A2 := [(c3, .cells ([a5] ++ [a7]).toArray 29)]))
 refine r_storeAll (v := Value.agg ([a5] ++ [a7]).toArray) (vs := ([a5] ++ [a7]).toArray) (cs := ([Value.slice none 0 0] ++ [Value.slice none 0 0]).toArray) ty29 (by exact g8) rfl rfl hS rfl (one_app (one1 b2.isOne) (one1 e2.own.isOne)) rfl ?_
 intro w6 hS
 have hS : St m7 w6 (c1 ++ ([(c3, .cells ([a5] ++ [a7]).toArray 29)] ++ ([(b4, .cells ([a5] ++ [a7]).toArray 29)] ++ L))) := hS.perm (perm2 (A1 := c1) (A2 := [(c3, .cells ([a5] ++ [a7]).toArray 29)])).symm
 refine r_assign (vI 0) rfl rfl ?_
 refine reg_nil ?_
 refine run_ret (vs := [Value.agg ([a5] ++ [a7]).toArray, vI 0]) Tryz.func18 ⟨⟨_, (by exact g8), run_loadAll ty29 (hS.get (mR (mR mL))) rfl⟩, rfl, trivial⟩ ?_
 obtain ⟨w7, j9, hS, k0⟩ := OwnSlN.freezeN (τ := (tySl yT)) (H0 := H) (rootIn_sl _) e2 hS hsub
 have q2 : RdF (tySl yT) H w7 a7 c5 := RdN.old k0
 have a04 := RdSl.old q2
 have hsub := hsub.trans j9
 have c6 := c6.mono j9
 have hz := Option.some.inj e8
 subst hz
 exact ⟨_, _, rfl, hsub, (St.dropA (A := [(b4, .cells ([a5] ++ [a7]).toArray 29)]) (St.dropA (A := [(c3, .cells ([a5] ++ [a7]).toArray 29)]) hS)), ⟨_, _, rfl, ⟨_, _, rfl, c6, k0⟩, rfl⟩⟩
 rw [if_neg h5] at q0
 refine run_cond_true (Eq.trans rfl (congrArg (fun b => Value.bool (!b)) (decide_eq_false h5))) ?_
 refine run_seq (run_region ?_)
 refine r_build0 (Value.agg ([Value.slice none 0 0] ++ [Value.slice none 0 0]).toArray) bz29 rfl ?_
 refine r_move (vI e3) rfl rfl ?_
 refine r_storeAll (v := Value.agg ([Value.slice none 0 0] ++ [Value.slice none 0 0]).toArray) (vs := ([Value.slice none 0 0] ++ [Value.slice none 0 0]).toArray) (cs := ([Value.slice none 0 0] ++ [Value.slice none 0 0]).toArray) ty29 rfl rfl rfl hS rfl (one_app (one1 rfl) (one1 rfl)) rfl ?_
 intro a46 hS
 refine r_assign (vI e3) rfl rfl ?_
 refine reg_nil ?_
 refine run_ret (vs := [Value.agg ([Value.slice none 0 0] ++ [Value.slice none 0 0]).toArray, vI e3]) Tryz.func18 ⟨⟨_, rfl, run_loadAll ty29 (hS.get mL) rfl⟩, rfl, trivial⟩ ?_
 have hz := Option.some.inj q0
 subst hz
 exact ⟨_, _, rfl, hsub, (St.dropA (A := [(b4, .cells ([Value.slice none 0 0] ++ [Value.slice none 0 0]).toArray 29)]) hS), ⟨_, _, rfl, ⟨_, _, rfl, RdSl.nil, RdN.nil (by first | exact List.nodup_nil | (rw [List.append_nil]; exact roots_nodup _))⟩, rfl⟩⟩
end Go.Proofs.YtfodlhkoafhplaaGreat
