/- Walks of functions: each computes its pure function, if that gives a value. -/
import Derived.Test.YtfodlhkoafhplaaGreatCTy
import Derived.Test.YtfodlhkoafhplaaGreatCF12
import Derived.Test.YtfodlhkoafhplaaGreatCF11
import Derived.Test.YtfodlhkoafhplaaGreatCF1
import Derived.Test.YtfodlhkoafhplaaGreatCF16
import Derived.Test.YtfodlhkoafhplaaGreatCF14
import Derived.Test.YtfodlhkoafhplaaGreatCF10
import Derived.Test.YtfodlhkoafhplaaGreatCF4
import Derived.Test.YtfodlhkoafhplaaGreatCF7
import Derived.Test.YtfodlhkoafhplaaGreatCF15
namespace Go.Proofs.YtfodlhkoafhplaaGreat
open Go
set_option linter.unusedSimpArgs false
set_option linter.unusedVariables false
def g_impl_leader_lead_l1 (K : Nat) (a0 : LdT) (a9 : (A8 × Int)) : Nat → MpT → Int → Option (Ex MpT (MpT))
 | 0, _, _ => none
 | k + 1, c4, a3 => (if a3 < (a0.1.length : Int) then (if a3 < 8 then (if 0 < (idx8 a9.1 a3) then ((g_impl_leader_power K (a0.1, a0.2.1, a0.2.2) a3 (idx8 a9.1 a3)).bind fun f5 => ((g_impl_sum_times K c4 a0.2.1 f5).bind fun e7 => g_impl_leader_lead_l1 K a0 a9 k e7 (a3 + 1))) else g_impl_leader_lead_l1 K a0 a9 k c4 (a3 + 1)) else none) else some (.go c4))
def g_impl_leader_lead_l0 (K : Nat) (a0 : LdT) : Nat → MpT → MpT → Option (Ex MpT (MpT))
 | 0, _, _ => none
 | k + 1, [], a8 => some (.go a8)
 | k + 1, a9 :: e8, a8 => ((g_impl_number K).bind fun h6 => ((g_impl_leader_lead_l1 K a0 a9 K h6 0).bind (Ex.elim (fun r => some (.ret r)) (fun s => (fun (e9 : MpT) => ((g_impl_sum_addAll K a8 e9 a9.2).bind fun g3 => g_impl_leader_lead_l0 K a0 k e8 g3)) s))))
theorem g_impl_leader_lead_l0_perm {K : Nat} {a0 : LdT} {a8 : MpT} {k : Nat} {zp zq : MpT} {o : Ex MpT (MpT)} (hp : zp.Perm zq) (q : g_impl_leader_lead_l0 K a0 k zp a8 = some o) : g_impl_leader_lead_l0 K a0 k zq a8 = some o := by
 exact (perm_loop (K := K) (fun k zs s => g_impl_leader_lead_l0 K a0 k zs s) (by intros; rw [g_impl_leader_lead_l0])
  (fun z => by
   refine ⟨fun s => (g_impl_number K).bind fun r => (g_impl_leader_lead_l1 K a0 z K r 0).bind fun e => (match e with | .ret _ => none | .go y => g_impl_sum_addAll K s y z.2), .const fun r => ?_, fun k zs s => ?_⟩
   cases g_impl_leader_lead_l1 K a0 z K r 0 with
   | none => exact .fail
   | some e => cases e with
    | ret _ => exact .fail
    | go y => exact addAll_add _ _
   rw [g_impl_leader_lead_l0]
   cases g_impl_number K with
   | none => rfl
   | some r =>
    simp only [Option.bind_some]
    cases hq : g_impl_leader_lead_l1 K a0 z K r 0 with
    | none => rfl
    | some e => cases e with
     | go y => rfl
     | ret y =>
      have : ∀ (k : Nat) (t : MpT) (i : Int) e, g_impl_leader_lead_l1 K a0 z k t i = some e → ∃ y, e = .go y := by
       intro k
       induction k with
       | zero => intro t i e h; rw [g_impl_leader_lead_l1] at h; cases h
       | succ k ih =>
        intro t i e h
        rw [g_impl_leader_lead_l1] at h
        split at h
        split at h
        split at h
        obtain ⟨_, _, h⟩ := bind_some h
        obtain ⟨_, _, h⟩ := bind_some h
        exact ih _ _ _ h
        exact ih _ _ _ h
        cases h
        cases h; exact ⟨_, rfl⟩
      obtain ⟨y', h⟩ := this _ _ _ _ hq
      cases h) hp k a8).symm.trans q
def g_impl_leader_lead (K : Nat) (a0 : LdT) (a1 : MpT) : Option MpT := ((g_impl_leader_lead_l0 K a0 K a1 ([] : MpT)).bind (Ex.elim (fun r => some r) (fun s => (fun (c5 : MpT) => some c5) s)))
set_option maxRecDepth 100000 in
set_option maxHeartbeats 1000000 in
theorem g_impl_leader_lead_ok {K : Nat} {a0 : LdT} {a1 : MpT} {r : MpT} (q0 : g_impl_leader_lead K a0 a1 = some r) {H : FH} {w : World} {L : OL} {s0 : Value} {s1 : Value} (o6 : PtrF (tyLd K) H s0 a0) (o7 : RdMp .i64 H s1 a1) (hS : St H w L) :
 Calls Tryz.prog 117 #[s0, s1] w (DoneM .i64 r H L) := by
 obtain ⟨b7, c2, g4, h7, _, rfl, b1, ⟨d9, c6, f0, f6, rfl, a5, a4, a6, b0⟩, g5⟩ := o6
 have hsub := Sub.refl H
 refine calls_of_run Tryz.func117 rfl Tryz.ntmps117 rfl ?_
 unfold g_impl_leader_lead at q0
 refine run_seq (run_region ?_)
 refine r_assign (Value.map none) rfl rfl ?_
 refine reg_nil (run_seq ?_)
 refine run_region ?_
 refine r_makeMap (k := .i64) hS rfl ?_
 intro m1 w2 C3 o8 hS
 refine r_assign (m1) rfl rfl ?_
 refine reg_nil (run_seq ?_)
 refine run_seq (run_region ?_)
 refine r_move (s1) rfl rfl ?_
 refine r_range mp109 rfl o7 hS rfl ?_
 intro f1 w7 C8 o9 hS
 refine reg_nil (run_block ?_)
 obtain ⟨h8, b6, h9⟩ := bind_some q0
 refine loop_ind (id := 0) (fun k f w => ∃ (c8 : MpT) (a8 : MpT) (H1 : FH) (b8 : OL) (b2 : OL), g_impl_leader_lead_l0 K a0 k c8 a8 = some h8 ∧ Sub H H1 ∧ St H1 w (b8 ++ (b2 ++ L)) ∧ ItMp .i64 H1 f1 c8 none b8 ∧ OwnMp .i64 m1 a8 b2 ∧ MemoAt H1 f6 (MemoI K a0) ∧ RdSl (tyInt .i64) H1 d9 a0.1 ∧ RdSl (tyInt .i64) H1 c6 a0.2.1 ∧ RdSl (tyMp .i64) H1 f0 a0.2.2 ∧ H1 b7 = some (.cells g4 h7) ∧ ev f (.tmp 0) = Value.pointer (some ⟨b7, c2, none⟩) ∧ ev f (.tmp 5) = m1 ∧ ev f (.tmp 12) = f1) (fun f w => ∃ (c5 : MpT) (H1 : FH) (b5 : OL) (c1 : OL), h8 = .go c5 ∧ Sub H H1 ∧ St H1 w (b5 ++ (c1 ++ L)) ∧ ItMp .i64 H1 f1 ([] : MpT) none b5 ∧ OwnMp .i64 m1 c5 c1 ∧ ev f (.tmp 5) = m1) rfl ?_ ?_ K ?_ ?_
 rintro f w ⟨c8, a8, H1, b8, b2, b6, _⟩
 rw [g_impl_leader_lead_l0] at b6; cases b6
 rintro k q8 q9 p0 p1 ⟨c8, a8, l0, b8, b2, b6, hsub, hS, e0, a7, b0, a5, a4, a6, b1, f2, f3, d6⟩
 refine run_seq (run_region ?_)
 refine r_next (by exact d6) e0 hS rfl ?_ ?_
 intro l1; subst l1
 rw [g_impl_leader_lead_l0] at b6
 refine r_extract (Value.bool false) rfl rfl rfl ?_
 refine reg_nil (run_seq ?_)
 refine run_cond_false rfl ?_
 refine run_exit rfl ?_
 have hz := Option.some.inj b6
 subst hz
 exact p1 _ _ ⟨a8, l0, b8, b2, rfl, hsub, hS, e0, a7, f3⟩
 intro a9 e8 v6 d5 l2 b4 hS
 replace b6 := g_impl_leader_lead_l0_perm l2 b6
 rw [g_impl_leader_lead_l0] at b6
 refine r_extract (Value.bool true) rfl rfl rfl ?_
 refine reg_nil (run_seq ?_)
 refine run_cond_true rfl ?_
 refine run_skip (run_block ?_)
 refine run_seq (run_region ?_)
 refine r_entry (by exact d6) b4 hS rfl ?_
 refine r_extract (Value.agg (enc8 .i64 a9.1).toArray) rfl rfl rfl ?_
 refine r_extract (vI a9.2) rfl rfl rfl ?_
 refine r_alloc (z := Value.agg (enc8 .i64 (fun _ => 0)).toArray) (enc8 .i64 (fun _ => 0)).toArray ze188.zero rfl hS rfl ?_
 intro d2 v7 hS
 refine r_storeAll (v := Value.agg (enc8 .i64 a9.1).toArray) (vs := (enc8 .i64 a9.1).toArray) (cs := (enc8 .i64 (fun _ => 0)).toArray) ty188 rfl rfl rfl hS rfl (enc8_one .i64 a9.1) rfl ?_
 intro v8 hS
 refine r_assign (vI a9.2) rfl rfl ?_
 refine reg_nil (run_seq ?_)
 refine run_region ?_
 obtain ⟨h6, l3, b6⟩ := bind_some b6
 refine r_callFn Tryz.call207 args0 rfl (g_impl_number_ok l3  hS) ?_
 rintro v9 w0 ⟨k8, w1, w3, rfl, d3, hS, l4⟩
 refine ⟨_, rfl, ?_⟩
 have hsub := hsub.trans d3
 have a5 := a5.mono d3
 have a4 := a4.mono d3
 have a6 := a6.mono d3
 have b0 := b0.mono d3
 have a7 := a7.mono d3
 have b4 := b4.mono d3
 have b1 := d3.1 _ _ b1
 refine r_assign (k8) rfl rfl ?_
 refine reg_nil (run_seq ?_)
 refine run_seq (run_region ?_)
 refine r_move (Value.pointer (some ⟨b7, c2, none⟩)) (by exact f2) rfl ?_
 refine r_nilCheck rfl rfl ?_
 refine r_fieldAddr fld214_0 rfl rfl ?_
 refine r_loadOne (d9) ty22 rfl (hS.froz _ _ b1) (g5 0 (show 0 < 4 by decide)) rfl ?_
 have r0 := a5.bound
 refine r_lenRd sl22 rfl a5 rfl ?_
 refine r_move (vI 0) rfl rfl ?_
 refine reg_nil (run_block ?_)
 obtain ⟨i8, b9, hS, i0⟩ := l4.freeze hS
 have hsub := hsub.trans b9
 have a5 := a5.mono b9
 have a4 := a4.mono b9
 have a6 := a6.mono b9
 have b0 := b0.mono b9
 have a7 := a7.mono b9
 have b4 := b4.mono b9
 have b1 := b9.1 _ _ b1
 obtain ⟨i1, b3, f7⟩ := bind_some b6
 refine loop_ind (id := 2) (fun k f w => ∃ (c4 : MpT) (a3 : Int) (H1 : FH) (c0 : Value), g_impl_leader_lead_l1 K a0 a9 k c4 a3 = some i1 ∧ Sub H H1 ∧ St H1 w ([(d2, .cells (enc8 .i64 a9.1).toArray 188)] ++ (d5 ++ (b2 ++ L))) ∧ 0 ≤ a3 ∧ RdMp .i64 H1 c0 c4 ∧ MemoAt H1 f6 (MemoI K a0) ∧ RdSl (tyInt .i64) H1 d9 a0.1 ∧ RdSl (tyInt .i64) H1 c6 a0.2.1 ∧ RdSl (tyMp .i64) H1 f0 a0.2.2 ∧ OwnMp .i64 m1 a8 b2 ∧ ItMp .i64 H1 f1 e8 (some a9) d5 ∧ H1 b7 = some (.cells g4 h7) ∧ ev f (.tmp 0) = Value.pointer (some ⟨b7, c2, none⟩) ∧ ev f (.tmp 5) = m1 ∧ ev f (.tmp 6) = vP d2 ∧ ev f (.tmp 7) = vI a9.2 ∧ ev f (.tmp 8) = c0 ∧ ev f (.tmp 12) = f1 ∧ ev f (.tmp 23) = vI (a0.1.length : Int) ∧ ev f (.tmp 24) = vI a3) (fun f w => ∃ (e9 : MpT) (H1 : FH) (e6 : Value), i1 = .go e9 ∧ Sub H H1 ∧ St H1 w ([(d2, .cells (enc8 .i64 a9.1).toArray 188)] ++ (d5 ++ (b2 ++ L))) ∧ RdMp .i64 H1 e6 e9 ∧ MemoAt H1 f6 (MemoI K a0) ∧ RdSl (tyInt .i64) H1 d9 a0.1 ∧ RdSl (tyInt .i64) H1 c6 a0.2.1 ∧ RdSl (tyMp .i64) H1 f0 a0.2.2 ∧ OwnMp .i64 m1 a8 b2 ∧ ItMp .i64 H1 f1 e8 (some a9) d5 ∧ H1 b7 = some (.cells g4 h7) ∧ ev f (.tmp 0) = Value.pointer (some ⟨b7, c2, none⟩) ∧ ev f (.tmp 5) = m1 ∧ ev f (.tmp 7) = vI a9.2 ∧ ev f (.tmp 8) = e6 ∧ ev f (.tmp 12) = f1) rfl ?_ ?_ K ?_ ?_
 rintro f w ⟨c4, a3, H1, c0, b3, _⟩
 rw [g_impl_leader_lead_l1] at b3; cases b3
 rintro k r1 r2 k9 p2 ⟨c4, a3, i2, c0, b3, hsub, hS, o5, e1, b0, a5, a4, a6, a7, b4, b1, c7, e3, d4, e4, e5, d7, d8, c9⟩
 rw [g_impl_leader_lead_l1] at b3
 refine run_seq (run_region ?_)
 refine r_lss (k := .i64) (a := a3) (b := (a0.1.length : Int)) (by exact c9) (by exact d8) rfl ?_
 refine reg_nil (run_seq ?_)
 by_cases f8 : a3 < (a0.1.length : Int)
 rw [if_pos f8] at b3
 refine run_cond_true (Eq.trans rfl (congrArg Value.bool (decide_eq_true f8))) ?_
 refine run_skip (run_seq ?_)
 refine run_block (run_seq ?_)
 refine run_region ?_
 refine r_move (vI a3) (by exact c9) rfl ?_
 refine r_assign (vI a3) rfl rfl ?_
 refine reg_nil (run_seq ?_)
 refine run_region ?_
 refine r_move (vI a3) rfl rfl ?_
 obtain ⟨r3, b3⟩ := gd b3
 refine r_indexArP ar188 (by exact d4) rfl (by omega) (by omega) rfl ?_
 refine r_loadOne (vI (idx8 a9.1 a3)) ty3 rfl (hS.get (o := .cells (enc8 .i64 a9.1).toArray 188) mL) (box_ix ([]) ([]) (by omega) (by omega)) rfl ?_
 refine r_gtr (k := .i64) (a := (idx8 a9.1 a3)) (b := 0) rfl rfl rfl ?_
 refine reg_nil ?_
 by_cases f9 : 0 < (idx8 a9.1 a3)
 rw [if_pos f9] at b3
 refine run_cond_true (Eq.trans rfl (congrArg Value.bool (decide_eq_true f9))) ?_
 obtain ⟨f5, i9, b3⟩ := bind_some b3
 obtain ⟨e7, j0, b3⟩ := bind_some b3
 refine run_draw 12 (tabL [(31, MP.eq (c0)), (32, MP.eq (Value.pointer (some ⟨b7, c2, none⟩))), (33, MP.eq (Value.pointer (some ⟨b7, c2, none⟩))), (34, MP.eq (Value.pointer (some ⟨b7, c2 + 1, none⟩))), (35, MP.eq (c6)), (36, MP.eq (Value.pointer (some ⟨b7, c2, none⟩))), (37, MP.eq (vI a3)), (38, MP.eq (vI a3)), (39, MP.eq (Value.pointer (some ⟨d2, 0 + (a3).toNat * 1, none⟩))), (40, MP.eq (vI (idx8 a9.1 a3))), (41, MP.rep (R.mp .i64) (f5)), (42, MP.mp .i64 (e7))]) [] mixed rfl rfl rfl hS (hop_q rfl ?_ (hop_q rfl ?_ (hop_q rfl ?_ (hop_q rfl ?_ (hop_q rfl ?_ (hop_q rfl ?_ (hop_q rfl ?_ (hop_q rfl ?_ (hop_q rfl ?_ (hop_q rfl ?_ (hop_q rfl ?_ (hop_q rfl ?_ hop_nil)))))))))))) ?_
 intro w4 w5 w6 w8 r4 hS l5 r5 hcq
 refine r_move (c0) (evT (l5 8 rfl) e5) rfl ?_
 exact qn (.refl _) rfl hS rfl
 intro w9 x0 x1 x2 r6 hS l6 r7 hcq
 refine r_move (Value.pointer (some ⟨b7, c2, none⟩)) (evT (l6 0 rfl) c7) rfl ?_
 exact qn (.refl _) rfl hS rfl
 intro p3 x3 x4 x5 r8 hS r9 l7 hcq
 have p4 : ev p3 (.tmp 32) = Value.pointer (some ⟨b7, c2, none⟩) := l7 1 32 rfl rfl
 refine r_nilCheck p4 rfl ?_
 exact qn (.refl _) rfl hS rfl
 intro p5 x6 x7 x8 s2 hS s3 l9 hcq
 have p6 : ev p5 (.tmp 33) = Value.pointer (some ⟨b7, c2, none⟩) := l9 2 33 rfl rfl
 refine r_fieldAddr fld214_1 p6 rfl ?_
 exact qn (.refl _) rfl hS rfl
 intro p7 x9 y0 y1 m0 hS s4 m2 hcq
 have b1 := m0.1 _ _ b1
 have p8 : ev p7 (.tmp 34) = Value.pointer (some ⟨b7, c2 + 1, none⟩) := m2 3 34 rfl rfl
 refine r_loadOne (c6) ty22 p8 (hS.froz _ _ b1) (g5 1 (show 1 < 4 by decide)) rfl ?_
 exact qn (.refl _) rfl hS rfl
 intro y2 y3 y4 y5 s5 hS m3 s6 hcq
 refine r_move (Value.pointer (some ⟨b7, c2, none⟩)) (evT (m3 0 rfl) c7) rfl ?_
 exact qn (.refl _) rfl hS rfl
 intro p9 y6 y7 y8 s7 hS m4 s8 hcq
 have q1 : ev p9 (.tmp 9) = vI a3 := Eq.trans (m4 9 rfl) rfl
 refine r_move (vI a3) q1 rfl ?_
 exact qn (.refl _) rfl hS rfl
 intro q2 y9 z0 z1 s9 hS m5 t0 hcq
 have m6 : ev q2 (.tmp 9) = vI a3 := Eq.trans (m5 9 rfl) rfl
 refine r_move (vI a3) m6 rfl ?_
 exact qn (.refl _) rfl hS rfl
 intro m7 t1 t4 t5 q3 hS j1 j2 hcq
 have m8 : ev m7 (.tmp 38) = vI a3 := j2 7 38 rfl rfl
 refine r_indexArP ar188 (evT (j1 6 rfl) d4) m8 (by omega) (by omega) rfl ?_
 exact qn (.refl _) rfl hS rfl
 intro m9 t6 t7 t8 q4 hS q5 j3 hcq
 have n0 : ev m9 (.tmp 39) = Value.pointer (some ⟨d2, 0 + (a3).toNat * 1, none⟩) := j3 8 39 rfl rfl
 refine r_loadOne (vI (idx8 a9.1 a3)) ty3 n0 (hS.get (o := .cells (enc8 .i64 a9.1).toArray 188) (mR mL)) (box_ix ([]) ([]) (by omega) (by omega)) rfl ?_
 exact qn (.refl _) rfl hS rfl
 intro g6 t9 u0 u1 e2 hS q6 g0 hcq
 have a5 := a5.mono e2
 have a4 := a4.mono e2
 have a6 := a6.mono e2
 have b0 := b0.mono e2
 have b1 := e2.1 _ _ b1
 have n1 : ev g6 (.tmp 36) = Value.pointer (some ⟨b7, c2, none⟩) := g0 5 36 rfl rfl
 have n2 : ev g6 (.tmp 37) = vI a3 := g0 6 37 rfl rfl
 have n3 : ev g6 (.tmp 40) = vI (idx8 a9.1 a3) := g0 9 40 rfl rfl
 refine r_callFn Tryz.call208 (args3 n1 n2 n3) rfl (g_impl_leader_power_ok i9 ⟨_, _, _, _, _, rfl, b1, ⟨_, _, _, _, rfl, a5, a4, a6, b0⟩, g5⟩ hS) ?_
 rintro u2 u3 ⟨n4, u4, rfl, j4, hS, j5⟩
 refine ⟨n4, rfl, ?_⟩
 exact qn j4 rfl hS j5
 intro g7 u5 i3 u6 h1 hS q7 g1 hcq
 have hsub := Sub.refl i3
 have a4 := a4.mono h1
 have e1 := e1.mono h1
 have n5 : ev g7 (.tmp 31) = c0 := g1 0 31 rfl rfl
 have n6 : ev g7 (.tmp 35) = c6 := g1 4 35 rfl rfl
 obtain ⟨n7, i4⟩ : ∃ v, ev g7 (.tmp 41) = v := ⟨_, rfl⟩
 have j6 : (R.mp .i64).p i3 n7 (f5) := i4 ▸ (g1 10 41 rfl rfl)
 have j7 := j6
 refine r_callFn Tryz.call131 (args3 n5 n6 i4) rfl (g_impl_sum_times_ok j0 e1 a4 j7 hS) ?_
 rintro u7 u8 ⟨u9, v0, v1, rfl, j8, hS, j9⟩
 refine ⟨_, rfl, ?_⟩
 have hsub := hsub.trans j8
 obtain ⟨v2, k0, hS, k1⟩ := j9.freeze hS
 have hsub := hsub.trans k0
 exact reg_nil ⟨42, _, _, rfl, rfl, hsub, hS, k1⟩
 intro n8 n9 g8 c3 hS d0 k2 hcq
 have hS : St g8 n9 ([(d2, .cells (enc8 .i64 a9.1).toArray 188)] ++ (d5 ++ (b2 ++ L))) := hS
 have hsub := hsub.trans c3
 have a5 := a5.mono c3
 have a4 := a4.mono c3
 have a6 := a6.mono c3
 have b0 := b0.mono c3
 have a7 := a7.mono c3
 have b4 := b4.mono c3
 have b1 := c3.1 _ _ b1
 obtain ⟨g9, i5⟩ : ∃ v, ev n8 (.tmp 42) = v := ⟨_, rfl⟩
 have k3 : RdMp .i64 g8 g9 (e7) := i5 ▸ (k2 11 42 (by decide) rfl)
 refine r_assign (g9) (by exact i5) rfl ?_
 refine reg_nil (run_inBlock ?_)
 refine run_region ?_
 refine r_add (a3 + 1) (by exact (evT (d0 24 rfl) c9)) rfl (IntWalk.i64_in _ (by omega)) rfl ?_
 refine r_move (vI (a3 + 1)) rfl rfl ?_
 refine reg_nil ?_
 exact k9 _ _ ⟨e7, (a3 + 1), g8, g9, b3, hsub, hS, (by omega), k3, b0, a5, a4, a6, a7, b4, b1, (evT (d0 0 rfl) c7), (evT (d0 5 rfl) e3), (evT (d0 6 rfl) d4), (evT (d0 7 rfl) e4), rfl, (evT (d0 12 rfl) d7), (evT (d0 23 rfl) d8), rfl⟩
 rw [if_neg f9] at b3
 refine run_cond_false (Eq.trans rfl (congrArg Value.bool (decide_eq_false f9))) ?_
 refine run_skip (run_inBlock ?_)
 refine run_region ?_
 refine r_add (a3 + 1) (by exact c9) rfl (IntWalk.i64_in _ (by omega)) rfl ?_
 refine r_move (vI (a3 + 1)) rfl rfl ?_
 refine reg_nil ?_
 exact k9 _ _ ⟨c4, (a3 + 1), i2, c0, b3, hsub, hS, (by omega), e1, b0, a5, a4, a6, a7, b4, b1, c7, e3, d4, e4, e5, d7, d8, rfl⟩
 rw [if_neg f8] at b3
 refine run_cond_false (Eq.trans rfl (congrArg Value.bool (decide_eq_false f8))) ?_
 refine run_exit rfl ?_
 have hz := Option.some.inj b3
 subst hz
 exact p2 _ _ ⟨c4, i2, c0, rfl, hsub, hS, e1, b0, a5, a4, a6, a7, b4, b1, c7, e3, e4, e5, d7⟩
 exact ⟨h6, 0, i8, k8, b3, hsub, hS, (by omega), i0, b0, a5, a4, a6, a7, b4, b1, f2, f3, rfl, rfl, rfl, d6, rfl, rfl⟩
 rintro v3 o0 ⟨e9, o1, e6, rfl, hsub, hS, k4, b0, a5, a4, a6, a7, b4, b1, h2, f4, h3, h4, h0⟩
 dsimp only [Ex.elim] at f7
 refine run_region ?_
 refine r_move (m1) (by exact f4) rfl ?_
 refine r_move (e6) (by exact h4) rfl ?_
 refine r_move (vI a9.2) (by exact h3) rfl ?_
 obtain ⟨g3, k5, f7⟩ := bind_some f7
 have hS : St o1 o0 (b2 ++ ([(d2, .cells (enc8 .i64 a9.1).toArray 188)] ++ (d5 ++ L))) := hS.perm (perm2 (A1 := [(d2, .cells (enc8 .i64 a9.1).toArray 188)]) (A2 := d5))
 refine r_callFn Tryz.call132 (args3 rfl rfl rfl) rfl (g_impl_sum_addAll_ok k5 a7 k4 hS) ?_
 rintro v4 o2 ⟨i6, i7, rfl, d1, hS, k6⟩
 refine ⟨_, rfl, ?_⟩
 have hsub := hsub.trans d1
 have a5 := a5.mono d1
 have a4 := a4.mono d1
 have a6 := a6.mono d1
 have b0 := b0.mono d1
 have b4 := b4.mono d1
 have b1 := d1.1 _ _ b1
 have hS : St i6 o2 ([(d2, .cells (enc8 .i64 a9.1).toArray 188)] ++ (d5 ++ (i7 ++ L))) := hS.perm (perm2 (A1 := [(d2, .cells (enc8 .i64 a9.1).toArray 188)]) (A2 := d5)).symm
 refine reg_nil (run_inBlock ?_)
 have hS := St.dropA (A := [(d2, .cells (enc8 .i64 a9.1).toArray 188)]) hS
 exact p0 _ _ ⟨e8, g3, i6, d5, i7, f7, hsub, hS, b4.drop, k6, b0, a5, a4, a6, b1, h2, f4, h0⟩
 exact ⟨a1, ([] : MpT), H, C8, C3, b6, hsub, hS, o9, o8, b0, a5, a4, a6, b1, rfl, rfl, rfl⟩
 rintro v5 o3 ⟨c5, o4, b5, c1, rfl, hsub, hS, k7, g2, h5⟩
 dsimp only [Ex.elim] at h9
 refine run_seq (run_region ?_)
 refine r_move (m1) (by exact h5) rfl ?_
 refine r_assign (m1) rfl rfl ?_
 refine reg_nil ?_
 refine run_ret (vs := [m1]) Tryz.func117 ⟨rfl, trivial⟩ ?_
 have hS : St o4 o3 (c1 ++ (b5 ++ L)) := hS.perm (perm1 (A1 := b5))
 have hS := St.dropMid (A := c1) (B := b5) hS
 have hz := Option.some.inj h9
 subst hz
 exact ⟨_, _, _, rfl, hsub, hS, g2⟩
def g_spec_DropGenerator (K : Nat) (a0 : ((List Int) × (List MpT))) (a1 : Int) : Option (((List Int) × (List MpT)) × Int) := ((g_spec_l06Place K (a0.1, a0.2) a1).bind fun r7 => (if r7 = 0 then ((g_spec_l06Without K a0.1 ([a1])).bind fun b8 => ((g_spec_l06Named K (a0.1.length : Int) ([a1])).bind fun a9 => (if 0 ≤ a1 then (if a1 < (a0.2.length : Int) then ((g_spec_l04Apply K b8 a9 (rd a0.2 a1)).bind fun c1 => (if 0 < (c1.length : Int) then some ((([] : List Int), ([] : List MpT)), 5) else ((g_spec_l06Images K (a0.1, a0.2) b8 a9 ([a1])).bind fun b0 => some ((b0.1.1, b0.1.2), b0.2)))) else none) else none))) else some ((([] : List Int), ([] : List MpT)), r7)))
set_option maxRecDepth 100000 in
set_option maxHeartbeats 1000000 in
theorem g_spec_DropGenerator_ok {K : Nat} {a0 : ((List Int) × (List MpT))} {a1 : Int} {r : (((List Int) × (List MpT)) × Int)} (q0 : g_spec_DropGenerator K a0 a1 = some r) {H : FH} {w : World} {L : OL} {s0 : Value} {s1 : Value} (a3 : RdSl (tyInt .i64) H s0 a0.1) (a6 : RdSl (tySl yT) H s1 a0.2) (hS : St H w L) :
 Calls Tryz.prog 16 #[Value.agg ([s0] ++ [s1]).toArray, vI a1] w (Done (fun v G => (R.t2 (R.agg (tyPr (tySl (tyInt .i64)) (tySl (tySl yT)))) (R.int .i64)).p G v r) H L) := by
 have hsub := Sub.refl H
 refine calls_of_run Tryz.func16 rfl Tryz.ntmps16 rfl ?_
 unfold g_spec_DropGenerator at q0
 refine run_seq (run_region ?_)
 refine r_box (v := Value.agg ([s0] ++ [s1]).toArray) ([s0] ++ [s1]).toArray rfl rfl hS rfl ?_
 intro b1 w2 hS
 refine r_alloc (z := Value.agg ([Value.slice none 0 0] ++ [Value.slice none 0 0]).toArray) ([Value.slice none 0 0] ++ [Value.slice none 0 0]).toArray ze29.zero rfl hS rfl ?_
 intro b4 w5 hS
 refine r_assign (vI 0) rfl rfl ?_
 refine reg_nil (run_seq ?_)
 refine run_seq (run_region ?_)
 refine r_loadAll ty29 rfl (hS.get (mR mL)) rfl rfl ?_
 refine r_move (vI a1) rfl rfl ?_
 obtain ⟨r7, j7, q0⟩ := bind_some q0
 refine r_callFn Tryz.call78 (args2 rfl rfl) rfl (g_spec_l06Place_ok j7 a3 a6 hS) ?_
 rintro e7 w8 ⟨_, H7, rfl, d4, hS, rfl⟩
 refine ⟨_, rfl, ?_⟩
 have hsub := hsub.trans d4
 have a3 := a3.mono d4
 have a6 := a6.mono d4
 refine r_assign (vI r7) rfl rfl ?_
 refine reg_nil (run_seq ?_)
 refine run_region ?_
 refine r_move (vI r7) rfl rfl ?_
 refine r_neq (k := .i64) (a := r7) (b := 0) rfl rfl rfl ?_
 refine reg_nil ?_
 by_cases d0 : r7 = 0
 rw [if_pos d0] at q0
 refine run_cond_false (Eq.trans rfl (congrArg (fun b => Value.bool (!b)) (decide_eq_true d0))) ?_
 refine run_skip (run_seq ?_)
 obtain ⟨b8, g9, q0⟩ := bind_some q0
 have n2 := a3.bound
 obtain ⟨a9, e6, q0⟩ := bind_some q0
 refine run_draw 13 (tabL [(16, MP.eq (vP b1)), (17, MP.eq (s0)), (18, MP.eq (vI a1)), (19, MP.sl (tyInt .i64) ([a1])), (20, MP.rep (R.sl (tyInt .i64)) (b8)), (21, MP.eq (vP b1)), (22, MP.eq (s0)), (23, MP.eq (vI (a0.1.length : Int))), (24, MP.eq (vI a1)), (25, MP.sl (tyInt .i64) ([a1])), (26, MP.rep (R.sl (tySl yT)) (a9)), (7, MP.sl (tyInt .i64) (b8)), (8, MP.sl (tySl yT) (a9))]) [] mixed rfl rfl rfl hS (hop_q rfl ?_ (hop_q rfl ?_ (hop_q rfl ?_ (hop_q rfl ?_ (hop_q rfl ?_ (hop_q rfl ?_ (hop_q rfl ?_ (hop_q rfl ?_ (hop_q rfl ?_ (hop_q rfl ?_ (hop_q rfl ?_ (hop_q rfl ?_ (hop_q rfl ?_ hop_nil))))))))))))) ?_
 intro j8 s4 s5 s6 n3 hS h0 n4 hcq
 have j9 : ev j8 (.tmp 2) = vP b1 := Eq.trans (h0 2 rfl) rfl
 refine r_fieldAddr fld29_0 j9 rfl ?_
 exact qn (.refl _) rfl hS rfl
 intro k0 s7 s8 s9 n5 hS n6 h1 hcq
 have k1 : ev k0 (.tmp 16) = vP b1 := h1 0 16 rfl rfl
 refine r_loadOne (s0) ty22 k1 (hS.get (mR (mR mL))) rfl rfl ?_
 exact qn (.refl _) rfl hS rfl
 intro k2 t0 t1 t4 n7 hS h2 n8 hcq
 have k3 : ev k2 (.tmp 1) = vI a1 := Eq.trans (h2 1 rfl) rfl
 refine r_move (vI a1) k3 rfl ?_
 exact qn (.refl _) rfl hS rfl
 intro k4 t5 t6 t7 n9 hS o0 h3 hcq
 have k5 : ev k4 (.tmp 18) = vI a1 := h3 2 18 rfl rfl
 refine r_lit (τ := (tyInt .i64)) sl105 ze3 rfl [vI a1] [a1] rfl rfl (parts1 k5) (rel1 rfl) (by decide) (by decide) hS rfl ?_
 intro t8 t9 u0 h4 hS h5
 exact qn h4 rfl hS h5
 intro g7 u1 k6 u2 h6 hS o1 d5 hcq
 have a3 := a3.mono h6
 have k7 : ev g7 (.tmp 17) = s0 := d5 1 17 rfl rfl
 obtain ⟨k8, g8⟩ : ∃ v, ev g7 (.tmp 19) = v := ⟨_, rfl⟩
 have h7 : RdSl (tyInt .i64) k6 k8 ([a1]) := g8 ▸ (d5 3 19 rfl rfl)
 refine r_callFn Tryz.call79 (args2 k7 g8) rfl (g_spec_l06Without_ok g9 a3 h7 hS) ?_
 rintro u3 u4 ⟨k9, u5, rfl, h8, hS, h9⟩
 refine ⟨k9, rfl, ?_⟩
 exact qn h8 rfl hS h9
 intro l0 u6 u7 u8 o2 hS i0 o3 hcq
 have l1 : ev l0 (.tmp 2) = vP b1 := Eq.trans (i0 2 rfl) rfl
 refine r_fieldAddr fld29_0 l1 rfl ?_
 exact qn (.refl _) rfl hS rfl
 intro l2 u9 v0 v1 o4 hS o5 i1 hcq
 have l3 : ev l2 (.tmp 21) = vP b1 := i1 5 21 rfl rfl
 refine r_loadOne (s0) ty22 l3 (hS.get (mR (mR mL))) rfl rfl ?_
 exact qn (.refl _) rfl hS rfl
 intro l4 v2 v3 v4 i2 hS o6 i3 hcq
 have a3 := a3.mono i2
 have l5 : ev l4 (.tmp 22) = s0 := i3 6 22 rfl rfl
 refine r_lenRd sl22 l5 a3 rfl ?_
 exact qn (.refl _) rfl hS rfl
 intro l6 v5 v6 v7 o7 hS i4 o8 hcq
 have i5 : ev l6 (.tmp 1) = vI a1 := Eq.trans (i4 1 rfl) rfl
 refine r_move (vI a1) i5 rfl ?_
 exact qn (.refl _) rfl hS rfl
 intro i6 o9 p0 p1 m0 hS m1 e8 hcq
 have i7 : ev i6 (.tmp 24) = vI a1 := e8 8 24 rfl rfl
 refine r_lit (τ := (tyInt .i64)) sl105 ze3 rfl [vI a1] [a1] rfl rfl (parts1 i7) (rel1 rfl) (by decide) (by decide) hS rfl ?_
 intro p2 p3 p4 e9 hS f0
 exact qn e9 rfl hS f0
 intro d6 p5 i8 p6 m2 hS m3 d1 hcq
 have i9 : ev d6 (.tmp 23) = vI (a0.1.length : Int) := d1 7 23 rfl rfl
 obtain ⟨j0, d7⟩ : ∃ v, ev d6 (.tmp 25) = v := ⟨_, rfl⟩
 have f1 : RdSl (tyInt .i64) i8 j0 ([a1]) := d7 ▸ (d1 9 25 rfl rfl)
 refine r_callFn Tryz.call80 (args2 i9 d7) rfl (g_spec_l06Named_ok e6 f1 hS) ?_
 rintro p7 p8 ⟨j1, p9, rfl, f2, hS, f3⟩
 refine ⟨j1, rfl, ?_⟩
 exact qn f2 rfl hS f3
 intro j2 q1 j3 q2 m4 hS m5 f4 hcq
 obtain ⟨d8, d9⟩ : ∃ v, ev j2 (.tmp 20) = v := ⟨_, rfl⟩
 have f5 : (R.sl (tyInt .i64)).p j3 d8 (b8) := d9 ▸ (f4 4 20 rfl rfl)
 have f6 := f5
 refine r_assign (d8) d9 rfl ?_
 exact qn (.refl _) rfl hS f6
 intro j4 q3 j5 q4 m6 hS m7 f7 hcq
 obtain ⟨e0, e1⟩ : ∃ v, ev j4 (.tmp 26) = v := ⟨_, rfl⟩
 have f8 : (R.sl (tySl yT)).p j5 e0 (a9) := e1 ▸ (f7 10 26 rfl rfl)
 have f9 := f8
 refine r_assign (e0) e1 rfl ?_
 exact qn (.refl _) rfl hS f9
 intro b9 j6 c5 c2 hS c3 d2 hcq
 have hS : St c5 j6 ([(b4, .cells ([Value.slice none 0 0] ++ [Value.slice none 0 0]).toArray 29)] ++ ([(b1, .cells ([s0] ++ [s1]).toArray 29)] ++ L)) := hS
 have hsub := hsub.trans c2
 have a3 := a3.mono c2
 have a6 := a6.mono c2
 have e2 : ev b9 (.tmp 1) = vI a1 := Eq.trans (c3 1 rfl) rfl
 have e3 : ev b9 (.tmp 2) = vP b1 := Eq.trans (c3 2 rfl) rfl
 have c4 : ev b9 (.tmp 4) = vP b4 := Eq.trans (c3 4 rfl) rfl
 obtain ⟨c6, c7⟩ : ∃ v, ev b9 (.tmp 7) = v := ⟨_, rfl⟩
 have a7 : RdSl (tyInt .i64) c5 c6 (b8) := c7 ▸ (d2 11 7 (by decide) rfl)
 obtain ⟨c8, c9⟩ : ∃ v, ev b9 (.tmp 8) = v := ⟨_, rfl⟩
 have a8 : RdSl (tySl yT) c5 c8 (a9) := c9 ▸ (d2 12 8 (by decide) rfl)
 refine reg_nil (run_seq ?_)
 refine run_seq (run_region ?_)
 refine r_move (c6) (by exact c7) rfl ?_
 refine r_move (c8) (by exact c9) rfl ?_
 refine r_fieldAddr fld29_1 (by exact e3) rfl ?_
 refine r_loadOne (s1) ty27 rfl (hS.get (mR mL)) rfl rfl ?_
 refine r_move (vI a1) (by exact e2) rfl ?_
 obtain ⟨m8, q0⟩ := gd q0
 obtain ⟨m9, q0⟩ := gd q0
 obtain ⟨q5, q6, n0, q7, _, g0, g1, ⟨e4, rfl, d3⟩, g2⟩ := a6.elem (i := a1) (by omega) (by omega)
 refine r_indexAt sl27 rfl rfl g0 rfl (by omega) (by omega) rfl ?_
 refine r_loadAgg ([e4]) ty47 rfl (hS.froz _ _ g1) rfl g2 rfl ?_
 obtain ⟨c1, g3, q0⟩ := bind_some q0
 refine r_callFn Tryz.call81 (args3 rfl rfl rfl) rfl (g_spec_l04Apply_ok g3 a7 a8 d3 hS) ?_
 rintro q8 q9 ⟨r0, r1, rfl, b2, hS, ⟨_, rfl, ⟨e5, rfl, c0⟩⟩⟩
 refine ⟨_, rfl, ?_⟩
 have hsub := hsub.trans b2
 have a7 := a7.mono b2
 have a8 := a8.mono b2
 have a6 := a6.mono b2
 have a3 := a3.mono b2
 refine r_fieldOne (e5) fie47_0 rfl rfl rfl ?_
 have n1 := c0.bound
 refine r_lenRd sl45 rfl c0 rfl ?_
 refine r_gtr (k := .i64) (a := (c1.length : Int)) (b := 0) rfl rfl rfl ?_
 refine reg_nil ?_
 by_cases b7 : 0 < (c1.length : Int)
 rw [if_pos b7] at q0
 refine run_cond_true (Eq.trans rfl (congrArg Value.bool (decide_eq_true b7))) ?_
 refine run_seq (run_region ?_)
 refine r_build0 (Value.agg ([Value.slice none 0 0] ++ [Value.slice none 0 0]).toArray) bz29 rfl ?_
 refine r_storeAll (v := Value.agg ([Value.slice none 0 0] ++ [Value.slice none 0 0]).toArray) (vs := ([Value.slice none 0 0] ++ [Value.slice none 0 0]).toArray) (cs := ([Value.slice none 0 0] ++ [Value.slice none 0 0]).toArray) ty29 (by exact c4) rfl rfl hS rfl (one_app (one1 rfl) (one1 rfl)) rfl ?_
 intro r2 hS
 refine r_assign (vI 5) rfl rfl ?_
 refine reg_nil ?_
 refine run_ret (vs := [Value.agg ([Value.slice none 0 0] ++ [Value.slice none 0 0]).toArray, vI 5]) Tryz.func16 ⟨⟨_, (by exact c4), run_loadAll ty29 (hS.get mL) rfl⟩, rfl, trivial⟩ ?_
 have hz := Option.some.inj q0
 subst hz
 exact ⟨_, _, rfl, hsub, (St.dropA (A := [(b1, .cells ([s0] ++ [s1]).toArray 29)]) (St.dropA (A := [(b4, .cells ([Value.slice none 0 0] ++ [Value.slice none 0 0]).toArray 29)]) hS)), ⟨_, _, rfl, ⟨_, rfl, ⟨_, _, rfl, ⟨_, rfl, RdSl.nil⟩, ⟨_, rfl, RdSl.nil⟩⟩⟩, rfl⟩⟩
 rw [if_neg b7] at q0
 refine run_cond_false (Eq.trans rfl (congrArg Value.bool (decide_eq_false b7))) ?_
 refine run_skip (run_seq ?_)
 refine run_region ?_
 refine r_loadAll ty29 (by exact e3) (hS.get (mR mL)) rfl rfl ?_
 refine r_move (c6) (by exact c7) rfl ?_
 refine r_move (c8) (by exact c9) rfl ?_
 refine r_move (vI a1) (by exact e2) rfl ?_
 refine r_lit (τ := (tyInt .i64)) sl105 ze3 rfl [vI a1] [a1] rfl rfl (parts1 rfl) (rel1 rfl) (by decide) (by decide) hS rfl ?_
 intro r3 r4 r5 b3 hS g4
 have hsub := hsub.trans b3
 have a7 := a7.mono b3
 have a8 := a8.mono b3
 have a3 := a3.mono b3
 have a6 := a6.mono b3
 obtain ⟨b0, g5, q0⟩ := bind_some q0
 refine r_callFn Tryz.call82 (args4 rfl rfl rfl rfl) rfl (g_spec_l06Images_ok g5 a3 a6 a7 a8 g4 hS) ?_
 rintro r6 r8 ⟨_, r9, rfl, g6, hS, ⟨l7, l9, rfl, ⟨_, rfl, ⟨_, _, rfl, ⟨a4, rfl, b5⟩, ⟨a5, rfl, b6⟩⟩⟩, rfl⟩⟩
 refine ⟨_, rfl, ?_⟩
 have hsub := hsub.trans g6
 refine r_extract (Value.agg ([a4] ++ [a5]).toArray) rfl rfl rfl ?_
 refine r_extract (vI b0.2) rfl rfl rfl ?_
 refine r_storeAll (v := Value.agg ([a4] ++ [a5]).toArray) (vs := ([a4] ++ [a5]).toArray) (cs := ([Value.slice none 0 0] ++ [Value.slice none 0 0]).toArray) ty29 (by exact c4) rfl rfl hS rfl (one_app (one1 b5.isOne) (one1 b6.isOne)) rfl ?_
 intro s2 hS
 refine r_assign (vI b0.2) rfl rfl ?_
 refine reg_nil ?_
 refine run_ret (vs := [Value.agg ([a4] ++ [a5]).toArray, vI b0.2]) Tryz.func16 ⟨⟨_, (by exact c4), run_loadAll ty29 (hS.get mL) rfl⟩, rfl, trivial⟩ ?_
 have hz := Option.some.inj q0
 subst hz
 exact ⟨_, _, rfl, hsub, (St.dropA (A := [(b1, .cells ([s0] ++ [s1]).toArray 29)]) (St.dropA (A := [(b4, .cells ([a4] ++ [a5]).toArray 29)]) hS)), ⟨_, _, rfl, ⟨_, rfl, ⟨_, _, rfl, ⟨_, rfl, b5⟩, ⟨_, rfl, b6⟩⟩⟩, rfl⟩⟩
 rw [if_neg d0] at q0
 refine run_cond_true (Eq.trans rfl (congrArg (fun b => Value.bool (!b)) (decide_eq_false d0))) ?_
 refine run_seq (run_region ?_)
 refine r_build0 (Value.agg ([Value.slice none 0 0] ++ [Value.slice none 0 0]).toArray) bz29 rfl ?_
 refine r_move (vI r7) rfl rfl ?_
 refine r_storeAll (v := Value.agg ([Value.slice none 0 0] ++ [Value.slice none 0 0]).toArray) (vs := ([Value.slice none 0 0] ++ [Value.slice none 0 0]).toArray) (cs := ([Value.slice none 0 0] ++ [Value.slice none 0 0]).toArray) ty29 rfl rfl rfl hS rfl (one_app (one1 rfl) (one1 rfl)) rfl ?_
 intro s3 hS
 refine r_assign (vI r7) rfl rfl ?_
 refine reg_nil ?_
 refine run_ret (vs := [Value.agg ([Value.slice none 0 0] ++ [Value.slice none 0 0]).toArray, vI r7]) Tryz.func16 ⟨⟨_, rfl, run_loadAll ty29 (hS.get mL) rfl⟩, rfl, trivial⟩ ?_
 have hz := Option.some.inj q0
 subst hz
 exact ⟨_, _, rfl, hsub, (St.dropA (A := [(b1, .cells ([s0] ++ [s1]).toArray 29)]) (St.dropA (A := [(b4, .cells ([Value.slice none 0 0] ++ [Value.slice none 0 0]).toArray 29)]) hS)), ⟨_, _, rfl, ⟨_, rfl, ⟨_, _, rfl, ⟨_, rfl, RdSl.nil⟩, ⟨_, rfl, RdSl.nil⟩⟩⟩, rfl⟩⟩
def g_impl_IsAlgebra_c1 (K : Nat) (a0 : MpT) (a1 : ((List Int) × (List MpT))) : Option Bool := ((g_impl_sumOf K a0).bind fun r5 => ((g_impl_Algebra_d K (a1.1, a1.2) r5).bind fun a6 => some (decide (0 < (a6.length : Int)))))
set_option maxRecDepth 100000 in
set_option maxHeartbeats 1000000 in
theorem g_impl_IsAlgebra_c1_ok {K : Nat} {a0 : MpT} {a1 : ((List Int) × (List MpT))} {r : Bool} (q0 : g_impl_IsAlgebra_c1 K a0 a1 = some r) {H : FH} {w : World} {L : OL} {s0 : Value} {s1 : Value} (b5 : RdSl yT H s0 a0) (b6 : PtrF (tyPr (tySl (tyInt .i64)) (tySl (tySl yT))) H s1 a1) (hS : St H w L) :
 Calls Tryz.prog 128 #[Value.agg ([s0]).toArray, s1] w (Done (fun v G => R.bool.p G v r) H L) := by
 obtain ⟨c3, c4, c2, c5, _, rfl, a5, ⟨_, _, rfl, ⟨b7, rfl, a3⟩, ⟨b8, rfl, a4⟩⟩, a9⟩ := b6
 have hsub := Sub.refl H
 refine calls_of_run Tryz.func128 rfl Tryz.ntmps128 rfl ?_
 unfold g_impl_IsAlgebra_c1 at q0
 refine run_seq (run_region ?_)
 refine r_box (v := Value.agg ([s0]).toArray) ([s0]).toArray rfl rfl hS rfl ?_
 intro b1 w2 hS
 refine r_assign (Value.bool false) rfl rfl ?_
 refine reg_nil (run_seq ?_)
 refine run_region ?_
 refine r_loadAll ty47 rfl (hS.get mL) rfl rfl ?_
 obtain ⟨r5, b9, q0⟩ := bind_some q0
 refine r_callFn Tryz.call90 (args1 rfl) rfl (g_impl_sumOf_ok b9 b5 hS) ?_
 rintro e5 w6 ⟨m5, H5, C5, rfl, a7, hS, c0⟩
 refine ⟨_, rfl, ?_⟩
 have hsub := hsub.trans a7
 have a3 := a3.mono a7
 have a4 := a4.mono a7
 have a5 := a7.1 _ _ a5
 obtain ⟨H8, a8, hS, b0⟩ := c0.freeze hS
 have hsub := hsub.trans a8
 have a3 := a3.mono a8
 have a4 := a4.mono a8
 have a5 := a8.1 _ _ a5
 obtain ⟨a6, b2, q0⟩ := bind_some q0
 refine r_callFn Tryz.call120 (args2 rfl rfl) rfl (g_impl_Algebra_d_ok b2 ⟨_, _, _, _, _, rfl, a5, ⟨_, _, rfl, ⟨_, rfl, a3⟩, ⟨_, rfl, a4⟩⟩, a9⟩ b0 hS) ?_
 rintro c6 c7 ⟨c8, c9, c1, rfl, b3, hS, b4⟩
 refine ⟨_, rfl, ?_⟩
 have hsub := hsub.trans b3
 refine r_lenMapO mp109 rfl b4 hS rfl ?_
 refine r_gtr (k := .i64) (a := (a6.length : Int)) (b := 0) rfl rfl rfl ?_
 refine r_assign (Value.bool (decide (0 < (a6.length : Int)))) rfl rfl ?_
 refine reg_nil ?_
 refine run_ret (vs := [Value.bool (decide (0 < (a6.length : Int)))]) Tryz.func128 ⟨rfl, trivial⟩ ?_
 have hz := Option.some.inj q0
 subst hz
 exact ⟨_, _, rfl, hsub, (St.dropA (A := [(b1, .cells ([s0]).toArray 47)]) (St.dropA (A := c1) hS)), rfl⟩
end Go.Proofs.YtfodlhkoafhplaaGreat
