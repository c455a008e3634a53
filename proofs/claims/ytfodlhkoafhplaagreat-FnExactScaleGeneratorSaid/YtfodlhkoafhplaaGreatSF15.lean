/- Walks of functions: each computes its pure function, if that gives a value. -/
import Derived.Test.YtfodlhkoafhplaaGreatSTy
import Derived.Test.YtfodlhkoafhplaaGreatSF12
import Derived.Test.YtfodlhkoafhplaaGreatSF11
import Derived.Test.YtfodlhkoafhplaaGreatSF9
import Derived.Test.YtfodlhkoafhplaaGreatSF3
import Derived.Test.YtfodlhkoafhplaaGreatSF10
import Derived.Test.YtfodlhkoafhplaaGreatSF14
import Derived.Test.YtfodlhkoafhplaaGreatSF13
import Derived.Test.YtfodlhkoafhplaaGreatSF2
namespace Go.Proofs.YtfodlhkoafhplaaGreat
open Go
set_option linter.unusedSimpArgs false
set_option linter.unusedVariables false
set_option maxRecDepth 100000
set_option maxHeartbeats 1000000
def g_impl_Algebra_d_l2 (K : Nat) (a3 : Int) : Nat → Int → A8 → Option (Ex MpT (A8))
 | 0, _, _ => none
 | k + 1, b4, b7 => (if b4 < (a3 + 1) then (if b4 < 8 then g_impl_Algebra_d_l2 K a3 k (b4 + 1) (upd8 b7 b4 0) else none) else some (.go b7))
def g_impl_Algebra_d_j15 (K : Nat) (i4 : Int → Int → A8 → MpT → Option (Ex MpT (A8 × MpT))) (a0 : ((List Int) × (List MpT))) (b0 : Int) (a3 : Int) (a4 : A8) (a5 : (A8 × Int)) (b1 : MpT) : Option (Ex MpT (A8 × MpT)) := (if a3 < (a0.1.length : Int) then (if (((rd a0.1 a3)).tmod 2) = 1 then (if (((idx8 a5.1 a3)).tmod 2) = 1 then i4 (IntKind.i64.wrap (0 - b0)) (a3 + 1) (upd8 a4 a3 (idx8 a5.1 a3)) b1 else i4 b0 (a3 + 1) (upd8 a4 a3 (idx8 a5.1 a3)) b1) else i4 b0 (a3 + 1) (upd8 a4 a3 (idx8 a5.1 a3)) b1) else i4 b0 (a3 + 1) (upd8 a4 a3 (idx8 a5.1 a3)) b1)
def g_impl_Algebra_d_l1 (K : Nat) (a0 : ((List Int) × (List MpT))) (r6 : M8) (a5 : (A8 × Int)) : Nat → Int → Int → A8 → MpT → Option (Ex MpT (A8 × MpT))
 | 0, _, _, _, _ => none
 | k + 1, b0, a3, a4, c1 => (if a3 < 8 then (if 0 < (idx8 a5.1 a3) then ((g_impl_Algebra_d_l2 K a3 K 0 a5.1).bind (Ex.elim (fun r => some (.ret r)) (fun s => (fun (a8 : A8) => ((g_impl_sum_times K (mput ([] : MpT) (upd8 a4 a3 (IntKind.i64.wrap ((idx8 a5.1 a3) - 1))) 1) a0.1 (idxM r6 a3)).bind fun g6 => ((g_impl_sum_times K g6 a0.1 (mput ([] : MpT) a8 1)).bind fun f1 => ((g_impl_field K (IntKind.i64.wrap ((IntKind.i64.wrap (b0 * a5.2)) * (idx8 a5.1 a3)))).bind fun i6 => ((g_impl_sum_addAll K c1 f1 i6).bind fun i7 => g_impl_Algebra_d_j15 K (g_impl_Algebra_d_l1 K a0 r6 a5 k) a0 b0 a3 a4 a5 i7))))) s))) else g_impl_Algebra_d_j15 K (g_impl_Algebra_d_l1 K a0 r6 a5 k) a0 b0 a3 a4 a5 c1) else some (.go (a4, c1)))
def g_impl_Algebra_d_l0 (K : Nat) (a0 : ((List Int) × (List MpT))) (r6 : M8) : Nat → MpT → MpT → Option (Ex MpT (MpT))
 | 0, _, _ => none
 | k + 1, [], b5 => some (.go b5)
 | k + 1, a5 :: g0, b5 => ((g_impl_Algebra_d_l1 K a0 r6 a5 K 1 0 (fun _ => 0) b5).bind (Ex.elim (fun r => some (.ret r)) (fun s => (fun (e1 : A8) (d9 : MpT) => g_impl_Algebra_d_l0 K a0 r6 k g0 d9) s.1 s.2)))
theorem g_impl_Algebra_d_l0_perm {K : Nat} {a0 : ((List Int) × (List MpT))} {r6 : M8} {b5 : MpT} {k : Nat} {zp zq : MpT} {o : Ex MpT (MpT)} (hp : zp.Perm zq) (q : g_impl_Algebra_d_l0 K a0 r6 k zp b5 = some o) : g_impl_Algebra_d_l0 K a0 r6 k zq b5 = some o := by
 have h2 : ∀ (i : Int) (k : Nat) (j : Int) (b : A8) e, g_impl_Algebra_d_l2 K i k j b = some e → ∃ y, e = .go y := by
  intro i k
  induction k with
  | zero => intro j b e h; rw [g_impl_Algebra_d_l2] at h; cases h
  | succ k ih =>
   intro j b e h
   rw [g_impl_Algebra_d_l2] at h
   split at h
   split at h
   exact ih _ _ _ h
   cases h
   cases h; exact ⟨_, rfl⟩
 have hj : ∀ (i4 : Int → Int → A8 → MpT → Option (Ex MpT (A8 × MpT))) (a b : Int) (c : A8) (z : A8 × Int), (∀ a b c, AddE K (fun (x : A8) s => (x, s)) (fun s => i4 a b c s)) →
  AddE K (fun (x : A8) s => (x, s)) (fun s => g_impl_Algebra_d_j15 K i4 a0 a b c z s) := by
  intro i4 a b c z h
  unfold g_impl_Algebra_d_j15
  exact .ite (.ite (.ite (h _ _ _) (h _ _ _)) (h _ _ _)) (h _ _ _)
 have hl : ∀ (z : A8 × Int) (k : Nat) (a b : Int) (c : A8), AddE K (fun (x : A8) s => (x, s)) (fun s => g_impl_Algebra_d_l1 K a0 r6 z k a b c s) := by
  intro z k
  induction k with
  | zero => intro a b c; exact ⟨none, fun s => (show g_impl_Algebra_d_l1 K a0 r6 z 0 a b c s = none by rw [g_impl_Algebra_d_l1])⟩
  | succ k ih =>
   intro a b c
   have e : (fun s => g_impl_Algebra_d_l1 K a0 r6 z (k + 1) a b c s) = fun s => (if b < 8 then (if 0 < (idx8 z.1 b) then ((g_impl_Algebra_d_l2 K b K 0 z.1).bind fun e => (match e with
    | .ret r => some (.ret r)
    | .go y => ((g_impl_sum_times K (mput ([] : MpT) (upd8 c b (IntKind.i64.wrap ((idx8 z.1 b) - 1))) 1) a0.1 (idxM r6 b)).bind fun g6 => ((g_impl_sum_times K g6 a0.1 (mput ([] : MpT) y 1)).bind fun f1 => ((g_impl_field K (IntKind.i64.wrap ((IntKind.i64.wrap (a * z.2)) * (idx8 z.1 b)))).bind fun i6 => ((g_impl_sum_addAll K s f1 i6).bind fun i7 => g_impl_Algebra_d_j15 K (g_impl_Algebra_d_l1 K a0 r6 z k) a0 a b c z i7)))))) else g_impl_Algebra_d_j15 K (g_impl_Algebra_d_l1 K a0 r6 z k) a0 a b c z s) else some (.go (c, s))) := by
    funext s
    rw [g_impl_Algebra_d_l1]
    split
    split
    cases g_impl_Algebra_d_l2 K b K 0 z.1 with
    | none => rfl
    | some e => cases e <;> rfl
    rfl
    rfl
   rw [e]
   refine .ite (.ite ?_ (hj _ _ _ _ _ ih)) (.go (h := fun (x : A8) s => (x, s)) c)
   cases hq : g_impl_Algebra_d_l2 K b K 0 z.1 with
   | none => exact .fail
   | some e =>
    obtain ⟨y, rfl⟩ := h2 _ _ _ _ _ hq
    simp only [Option.bind_some]
    exact .const fun g6 => .const fun f1 => .const fun i6 => .bind (addAll_add _ _) (hj _ _ _ _ _ ih)
 exact (perm_loop (K := K) (fun k zs s => g_impl_Algebra_d_l0 K a0 r6 k zs s) (by intros; rw [g_impl_Algebra_d_l0])
  (fun z => by
   obtain ⟨F, hF, hs⟩ := (hl z K 1 0 (fun _ => 0)).step (fun s => s.2) (fun _ _ => rfl)
   refine ⟨F, hF, fun k zs s => ?_⟩
   rw [g_impl_Algebra_d_l0]
   exact hs _ (g_impl_Algebra_d_l0 K a0 r6 k zs) s) hp k b5).symm.trans q
def g_impl_Algebra_d (K : Nat) (a0 : ((List Int) × (List MpT))) (a1 : MpT) : Option MpT := ((g_impl_Algebra_images K (a0.1, a0.2)).bind fun r6 => ((g_impl_Algebra_d_l0 K a0 r6 K a1 ([] : MpT)).bind (Ex.elim (fun r => some r) (fun s => (fun (e8 : MpT) => some e8) s))))
theorem g_impl_Algebra_d_ok {K : Nat} {a0 : ((List Int) × (List MpT))} {a1 : MpT} {r : MpT} (q0 : g_impl_Algebra_d K a0 a1 = some r) {H : FH} {w : World} {L : OL} {s0 : Value} {s1 : Value} (hs0 : PtrF (tyPr (tySl (tyInt .i64)) (tySl (tySl yT))) H s0 a0) (p2 : RdMp .i64 H s1 a1) (hS : St H w L) :
 Calls Tryz.prog 120 #[s0, s1] w (DoneM .i64 r H L) := by
 obtain ⟨c2, c5, h8, k2, _, rfl, a9, ⟨_, _, rfl, ⟨c3, rfl, a6⟩, ⟨e9, rfl, a7⟩⟩, i8⟩ := hs0
 have hsub := Sub.refl H
 refine calls_of_run Tryz.func120 rfl Tryz.ntmps120 rfl ?_
 unfold g_impl_Algebra_d at q0
 refine run_seq (run_region (r_assign (Value.map none) rfl rfl (reg_nil (run_seq (run_region ?_)))))
 refine r_makeMap (k := .i64) hS rfl ?_
 intro m1 w2 C3 p3 hS
 refine r_move (Value.pointer (some ⟨c2, c5, none⟩)) rfl rfl ?_
 obtain ⟨r6, hr6, q0⟩ := bind_some q0
 refine r_callFn Tryz.call146 (args1 rfl) rfl (g_impl_Algebra_images_ok hr6 ⟨_, _, _, _, _, rfl, a9, ⟨_, _, rfl, ⟨_, rfl, a6⟩, ⟨_, rfl, a7⟩⟩, i8⟩ hS) ?_
 rintro e6 w7 ⟨v6, H6, rfl, k3, hS, ⟨_, rfl, ⟨u6, rfl, b8⟩⟩⟩
 refine ⟨_, rfl, ?_⟩
 have hsub := hsub.trans k3
 have a6 := a6.mono k3
 have a7 := a7.mono k3
 have p2 := p2.mono k3
 have p3 := p3.mono k3
 have a9 := k3.1 _ _ a9
 have hn8 : RdV .i64 H6 nilV (fun _ => ([] : MpT)) := RdV.nil
 refine r_alloc (z := vA (encV nilV)) (encV nilV).toArray ze182.zero rfl hS rfl ?_
 intro b9 w10 hS
 refine r_assign (m1) rfl rfl ?_
 refine r_storeAll (v := vA (encV u6)) (vs := (encV u6).toArray) (cs := (encV nilV).toArray) ty182 rfl rfl rfl hS rfl (encV_one b8) rfl ?_
 intro w12 hS
 refine reg_nil (run_seq (run_seq (run_region (r_move (s1) rfl rfl ?_))))
 refine r_range mp109 rfl p2 hS rfl ?_
 intro d1 w14 C15 x9 hS
 refine reg_nil (run_block ?_)
 obtain ⟨p4, e2, p5⟩ := bind_some q0
 refine loop_ind (id := 0) (fun k f w => ∃ (f2 : MpT) (b5 : MpT) (H1 : FH) (d5 : OL) (d2 : OL), g_impl_Algebra_d_l0 K a0 r6 k f2 b5 = some p4 ∧ Sub H H1 ∧ St H1 w (d5 ++ ([(b9, cA (encV u6) 182)] ++ (d2 ++ L))) ∧ ItMp .i64 H1 d1 f2 none d5 ∧ OwnMp .i64 m1 b5 d2 ∧ RdV .i64 H1 u6 r6 ∧ RdSl (tyInt .i64) H1 c3 a0.1 ∧ RdSl (tySl yT) H1 e9 a0.2 ∧ H1 c2 = some (.cells h8 k2) ∧ ev f (.tmp 0) = Value.pointer (some ⟨c2, c5, none⟩) ∧ ev f (.tmp 5) = m1 ∧ ev f (.tmp 6) = vP b9 ∧ ev f (.tmp 21) = d1) (fun f w => ∃ (e8 : MpT) (H1 : FH) (c7 : OL) (d3 : OL), p4 = .go e8 ∧ Sub H H1 ∧ St H1 w (c7 ++ ([(b9, cA (encV u6) 182)] ++ (d3 ++ L))) ∧ ItMp .i64 H1 d1 ([] : MpT) none c7 ∧ OwnMp .i64 m1 e8 d3 ∧ RdV .i64 H1 u6 r6 ∧ ev f (.tmp 5) = m1) rfl ?_ ?_ K ?_ ?_
 rintro f w ⟨f2, b5, H1, d5, d2, e2, _⟩
 rw [g_impl_Algebra_d_l0] at e2; cases e2
 rintro k a80 a81 ih0 hx0 ⟨f2, b5, p6, d5, d2, e2, hsub, hS, h5, i5, b8, a6, a7, a9, o3, k4, o4, g7⟩
 refine run_seq (run_region ?_)
 refine r_next (by exact g7) h5 hS rfl ?_ ?_
 intro y0; subst y0
 rw [g_impl_Algebra_d_l0] at e2
 refine r_extract (Value.bool false) rfl rfl rfl (reg_nil (run_seq (run_cond_false rfl ?_)))
 refine run_exit rfl ?_
 have hz := Option.some.inj e2
 subst hz
 exact hx0 _ _ ⟨b5, p6, d5, d2, rfl, hsub, hS, h5, i5, b8, k4⟩
 intro a5 g0 w21 d0 y1 b6 hS
 replace e2 := g_impl_Algebra_d_l0_perm y1 e2
 rw [g_impl_Algebra_d_l0] at e2
 refine r_extract (Value.bool true) rfl rfl rfl (reg_nil (run_seq (run_cond_true rfl (run_skip (run_block (run_seq (run_region ?_)))))))
 refine r_entry (by exact g7) b6 hS rfl (r_extract (vA (enc8 .i64 a5.1)) rfl rfl rfl (r_extract (vI a5.2) rfl rfl rfl ?_))
 refine r_alloc (z := vA (enc8 .i64 (fun _ => 0))) (enc8 .i64 (fun _ => 0)).toArray ze188.zero rfl hS rfl ?_
 intro d6 w26 hS
 refine r_storeAll (v := vA (enc8 .i64 a5.1)) (vs := (enc8 .i64 a5.1).toArray) (cs := (enc8 .i64 (fun _ => 0)).toArray) ty188 rfl rfl rfl hS rfl (enc8_one .i64 a5.1) rfl ?_
 intro w28 hS
 refine r_assign (vI a5.2) rfl rfl (reg_nil (run_seq (run_region ?_)))
 refine r_build0 (vA (enc8 .i64 (fun _ => 0))) bz188 rfl ?_
 refine r_alloc (z := vA (enc8 .i64 (fun _ => 0))) (enc8 .i64 (fun _ => 0)).toArray ze188.zero rfl hS rfl ?_
 intro d7 w30 hS
 refine r_storeAll (v := vA (enc8 .i64 (fun _ => 0))) (vs := (enc8 .i64 (fun _ => 0)).toArray) (cs := (enc8 .i64 (fun _ => 0)).toArray) ty188 rfl rfl rfl hS rfl (enc8_one .i64 (fun _ => 0)) rfl ?_
 intro w32 hS
 refine r_assign (vI 1) rfl rfl (reg_nil (run_seq (run_region ?_)))
 refine r_loadAll ty188 rfl (hS.get (mR mL)) rfl rfl (r_move (vI 0) rfl rfl (reg_nil (run_block ?_)))
 obtain ⟨m9, d4, p7⟩ := bind_some e2
 refine loop_ind (id := 2) (fun k f w => ∃ (b0 : Int) (a3 : Int) (a4 : A8) (c1 : MpT) (H1 : FH) (b2 : OL), g_impl_Algebra_d_l1 K a0 r6 a5 k b0 a3 a4 c1 = some m9 ∧ Sub H H1 ∧ St H1 w ([(d7, cA (enc8 .i64 a4) 188)] ++ ([(d6, cA (enc8 .i64 a5.1) 188)] ++ (d0 ++ ([(b9, cA (encV u6) 182)] ++ (b2 ++ L))))) ∧ 0 ≤ a3 ∧ OwnMp .i64 m1 c1 b2 ∧ RdV .i64 H1 u6 r6 ∧ RdSl (tyInt .i64) H1 c3 a0.1 ∧ RdSl (tySl yT) H1 e9 a0.2 ∧ ItMp .i64 H1 d1 g0 (some a5) d0 ∧ H1 c2 = some (.cells h8 k2) ∧ ev f (.tmp 0) = Value.pointer (some ⟨c2, c5, none⟩) ∧ ev f (.tmp 5) = m1 ∧ ev f (.tmp 6) = vP b9 ∧ ev f (.tmp 7) = vP d6 ∧ ev f (.tmp 8) = vI a5.2 ∧ ev f (.tmp 9) = vP d7 ∧ ev f (.tmp 10) = vI b0 ∧ ev f (.tmp 21) = d1 ∧ ev f (.tmp 28) = vA (enc8 .i64 a5.1) ∧ ev f (.tmp 29) = vI a3) (fun f w => ∃ (e1 : A8) (d9 : MpT) (H1 : FH) (f3 : OL), m9 = .go (e1, d9) ∧ Sub H H1 ∧ St H1 w ([(d7, cA (enc8 .i64 e1) 188)] ++ ([(d6, cA (enc8 .i64 a5.1) 188)] ++ (d0 ++ ([(b9, cA (encV u6) 182)] ++ (f3 ++ L))))) ∧ OwnMp .i64 m1 d9 f3 ∧ RdV .i64 H1 u6 r6 ∧ RdSl (tyInt .i64) H1 c3 a0.1 ∧ RdSl (tySl yT) H1 e9 a0.2 ∧ ItMp .i64 H1 d1 g0 (some a5) d0 ∧ H1 c2 = some (.cells h8 k2) ∧ ev f (.tmp 0) = Value.pointer (some ⟨c2, c5, none⟩) ∧ ev f (.tmp 5) = m1 ∧ ev f (.tmp 6) = vP b9 ∧ ev f (.tmp 21) = d1) rfl ?_ ?_ K ?_ ?_
 rintro f w ⟨b0, a3, a4, c1, H1, b2, d4, _⟩
 rw [g_impl_Algebra_d_l1] at d4; cases d4
 rintro k a82 a83 o1 hx1 ⟨b0, a3, a4, c1, n0, b2, d4, hsub, hS, a28, b3, b8, a6, a7, b6, a9, h9, i0, i1, i2, k5, k6, i9, g8, g9, e3⟩
 rw [g_impl_Algebra_d_l1] at d4
 refine run_seq (run_region ?_)
 refine r_lss (k := .i64) (a := a3) (b := 8) (by exact e3) rfl rfl (reg_nil (run_seq ?_))
 by_cases l5 : a3 < 8
 rw [if_pos l5] at d4
 refine run_cond_true (Eq.trans rfl (congrArg Value.bool (decide_eq_true l5))) (run_skip (run_seq (run_block (run_seq (run_region (r_move (vI a3) (by exact e3) rfl ?_))))))
 refine r_indexAr (vI (idx8 a5.1 a3)) ar188 (by exact g9) (by exact e3) (by omega) (by omega) (enc8_get (by omega) (by omega)) rfl (r_assign (vI a3) rfl rfl (r_assign (vI (idx8 a5.1 a3)) rfl rfl (reg_nil (run_seq (run_seq (run_region (r_move (vI (idx8 a5.1 a3)) rfl rfl ?_)))))))
 refine r_gtr (k := .i64) (a := (idx8 a5.1 a3)) (b := 0) rfl rfl rfl (reg_nil ?_)
 refine run_cut (fun f w => ∃ (b1 : MpT) (H1 : FH) (c4 : OL), g_impl_Algebra_d_j15 K (g_impl_Algebra_d_l1 K a0 r6 a5 k) a0 b0 a3 a4 a5 b1 = some m9 ∧ Sub H H1 ∧ St H1 w ([(d7, cA (enc8 .i64 a4) 188)] ++ ([(d6, cA (enc8 .i64 a5.1) 188)] ++ (d0 ++ ([(b9, cA (encV u6) 182)] ++ (c4 ++ L))))) ∧ OwnMp .i64 m1 b1 c4 ∧ RdV .i64 H1 u6 r6 ∧ RdSl (tyInt .i64) H1 c3 a0.1 ∧ RdSl (tySl yT) H1 e9 a0.2 ∧ ItMp .i64 H1 d1 g0 (some a5) d0 ∧ H1 c2 = some (.cells h8 k2) ∧ ev f (.tmp 0) = Value.pointer (some ⟨c2, c5, none⟩) ∧ ev f (.tmp 5) = m1 ∧ ev f (.tmp 6) = vP b9 ∧ ev f (.tmp 7) = vP d6 ∧ ev f (.tmp 8) = vI a5.2 ∧ ev f (.tmp 9) = vP d7 ∧ ev f (.tmp 10) = vI b0 ∧ ev f (.tmp 11) = vI a3 ∧ ev f (.tmp 12) = vI (idx8 a5.1 a3) ∧ ev f (.tmp 21) = d1 ∧ ev f (.tmp 28) = vA (enc8 .i64 a5.1) ∧ ev f (.tmp 29) = vI a3) ?_ ?_
 rintro a84 a36 ⟨b1, h6, c4, c8, hsub, hS, c9, b8, a6, a7, b6, a9, e0, g1, g2, g3, g4, f0, f4, h0, j0, f5, f6, f7⟩
 unfold g_impl_Algebra_d_j15 at c8
 refine run_seq (run_region (r_move (vI a3) (by exact h0) rfl (r_move (vI (idx8 a5.1 a3)) (by exact j0) rfl ?_)))
 refine r_indexArP ar188 (by exact f0) rfl (by omega) (by omega) rfl ?_
 refine r_store (v := vI (idx8 a5.1 a3)) (cs := (enc8 .i64 a4).toArray) (cs' := (enc8 .i64 (upd8 a4 a3 (idx8 a5.1 a3))).toArray) ty3 rfl rfl hS rfl (oneL rfl) (by simp [enc8, encV]; omega) (enc8_set (by omega) (by omega)) ?_
 intro w34 hS
 refine reg_nil (run_seq (run_region (r_move (vI a3) (by exact h0) rfl (r_move (Value.pointer (some ⟨c2, c5, none⟩)) (by exact e0) rfl (r_nilCheck rfl rfl (r_fieldAddr fld29_0 rfl rfl ?_))))))
 refine r_loadOne (c3) ty22 rfl (hS.froz _ _ a9) (i8 0 (show 0 < 2 by decide)) rfl ?_
 have a85 := a6.bound
 refine r_lenRd sl22 rfl a6 rfl ?_
 refine r_lss (k := .i64) (a := a3) (b := (a0.1.length : Int)) rfl rfl rfl (r_move (Value.bool (decide (a3 < (a0.1.length : Int)))) rfl rfl ?_)
 by_cases c0 : a3 < (a0.1.length : Int)
 rw [if_pos c0] at c8
 refine reg_guard rfl rfl (Eq.trans rfl (congrArg Value.bool (decide_eq_true c0))) (r_move (Value.pointer (some ⟨c2, c5, none⟩)) (by exact e0) rfl ?_)
 refine reg_guard rfl rfl (Eq.trans rfl (congrArg Value.bool (decide_eq_true c0))) (r_nilCheck rfl rfl ?_)
 refine reg_guard rfl rfl (Eq.trans rfl (congrArg Value.bool (decide_eq_true c0))) (r_fieldAddr fld29_0 rfl rfl ?_)
 refine reg_guard rfl rfl (Eq.trans rfl (congrArg Value.bool (decide_eq_true c0))) ?_
 refine r_loadOne (c3) ty22 rfl (hS.froz _ _ a9) (i8 0 (show 0 < 2 by decide)) rfl ?_
 refine reg_guard rfl rfl (Eq.trans rfl (congrArg Value.bool (decide_eq_true c0))) (r_move (vI a3) (by exact h0) rfl ?_)
 obtain ⟨b37, o37, a86, E37, _, y2, y3, rfl, y4⟩ := a6.elem (i := a3) (by omega) (by omega)
 refine reg_guard rfl rfl (Eq.trans rfl (congrArg Value.bool (decide_eq_true c0))) ?_
 refine r_indexAt sl22 rfl rfl y2 rfl (by omega) (by omega) rfl ?_
 refine reg_guard rfl rfl (Eq.trans rfl (congrArg Value.bool (decide_eq_true c0))) ?_
 refine r_loadOne (vI (rd a0.1 a3)) ty2 rfl (hS.froz _ _ y3) (y4 0 (show 0 < 1 by decide)) rfl ?_
 refine reg_guard rfl rfl (Eq.trans rfl (congrArg Value.bool (decide_eq_true c0))) ?_
 refine r_rem (((rd a0.1 a3)).tmod 2) rfl rfl (by decide) rfl rfl ?_
 refine reg_guard rfl rfl (Eq.trans rfl (congrArg Value.bool (decide_eq_true c0))) ?_
 refine r_eql (k := .i64) (a := (((rd a0.1 a3)).tmod 2)) (b := 1) rfl rfl rfl ?_
 refine r_pick (t := true) (Value.bool (decide ((((rd a0.1 a3)).tmod 2) = 1))) (Eq.trans rfl (congrArg Value.bool (decide_eq_true c0))) ((if_pos rfl).trans rfl) rfl (r_move (Value.bool (decide ((((rd a0.1 a3)).tmod 2) = 1))) rfl rfl ?_)
 by_cases e5 : (((rd a0.1 a3)).tmod 2) = 1
 rw [if_pos e5] at c8
 refine reg_guard rfl rfl (Eq.trans rfl (congrArg Value.bool (decide_eq_true e5))) (r_move (vI (idx8 a5.1 a3)) (by exact j0) rfl ?_)
 refine reg_guard rfl rfl (Eq.trans rfl (congrArg Value.bool (decide_eq_true e5))) ?_
 refine r_rem (((idx8 a5.1 a3)).tmod 2) rfl rfl (by decide) rfl rfl ?_
 refine reg_guard rfl rfl (Eq.trans rfl (congrArg Value.bool (decide_eq_true e5))) ?_
 refine r_eql (k := .i64) (a := (((idx8 a5.1 a3)).tmod 2)) (b := 1) rfl rfl rfl ?_
 refine r_pick (t := true) (Value.bool (decide ((((idx8 a5.1 a3)).tmod 2) = 1))) (Eq.trans rfl (congrArg Value.bool (decide_eq_true e5))) ((if_pos rfl).trans rfl) rfl (reg_nil ?_)
 by_cases l6 : (((idx8 a5.1 a3)).tmod 2) = 1
 rw [if_pos l6] at c8
 refine run_cond_true (Eq.trans rfl (congrArg Value.bool (decide_eq_true l6))) (run_region (r_move (vI b0) (by exact f4) rfl ?_))
 refine r_neg (IntKind.i64.wrap (0 - b0)) rfl rfl rfl (r_assign (vI (IntKind.i64.wrap (0 - b0))) rfl rfl (reg_nil (run_inBlock (run_region ?_))))
 refine r_add (a3 + 1) (by exact f7) rfl (IntWalk.i64_in _ (by omega)) rfl (r_move (vI (a3 + 1)) rfl rfl (reg_nil ?_))
 exact o1 _ _ ⟨(IntKind.i64.wrap (0 - b0)), (a3 + 1), (upd8 a4 a3 (idx8 a5.1 a3)), b1, h6, c4, c8, hsub, hS, (by omega), c9, b8, a6, a7, b6, a9, e0, g1, g2, g3, g4, f0, rfl, f5, f6, rfl⟩
 rw [if_neg l6] at c8
 refine run_cond_false (Eq.trans rfl (congrArg Value.bool (decide_eq_false l6))) (run_skip (run_inBlock (run_region ?_)))
 refine r_add (a3 + 1) (by exact f7) rfl (IntWalk.i64_in _ (by omega)) rfl (r_move (vI (a3 + 1)) rfl rfl (reg_nil ?_))
 exact o1 _ _ ⟨b0, (a3 + 1), (upd8 a4 a3 (idx8 a5.1 a3)), b1, h6, c4, c8, hsub, hS, (by omega), c9, b8, a6, a7, b6, a9, e0, g1, g2, g3, g4, f0, f4, f5, f6, rfl⟩
 rw [if_neg e5] at c8
 refine reg_unguard rfl rfl (Eq.trans rfl (congrArg Value.bool (decide_eq_false e5))) rfl rfl rfl (reg_unguard rfl rfl (Eq.trans rfl (congrArg Value.bool (decide_eq_false e5))) rfl rfl rfl (reg_unguard rfl rfl (Eq.trans rfl (congrArg Value.bool (decide_eq_false e5))) rfl rfl rfl ?_))
 refine r_pick (t := false) (Value.bool false) (Eq.trans rfl (congrArg Value.bool (decide_eq_false e5))) ((if_neg Bool.false_ne_true).trans rfl) rfl (reg_nil (run_cond_false rfl (run_skip (run_inBlock (run_region ?_)))))
 refine r_add (a3 + 1) (by exact f7) rfl (IntWalk.i64_in _ (by omega)) rfl (r_move (vI (a3 + 1)) rfl rfl (reg_nil ?_))
 exact o1 _ _ ⟨b0, (a3 + 1), (upd8 a4 a3 (idx8 a5.1 a3)), b1, h6, c4, c8, hsub, hS, (by omega), c9, b8, a6, a7, b6, a9, e0, g1, g2, g3, g4, f0, f4, f5, f6, rfl⟩
 rw [if_neg c0] at c8
 refine reg_unguard rfl rfl (Eq.trans rfl (congrArg Value.bool (decide_eq_false c0))) rfl rfl rfl (reg_unguard rfl rfl (Eq.trans rfl (congrArg Value.bool (decide_eq_false c0))) rfl rfl rfl (reg_unguard rfl rfl (Eq.trans rfl (congrArg Value.bool (decide_eq_false c0))) rfl rfl rfl (reg_unguard rfl rfl (Eq.trans rfl (congrArg Value.bool (decide_eq_false c0))) rfl rfl rfl (reg_unguard rfl rfl (Eq.trans rfl (congrArg Value.bool (decide_eq_false c0))) rfl rfl rfl (reg_unguard rfl rfl (Eq.trans rfl (congrArg Value.bool (decide_eq_false c0))) rfl rfl rfl (reg_unguard rfl rfl (Eq.trans rfl (congrArg Value.bool (decide_eq_false c0))) rfl rfl rfl (reg_unguard rfl rfl (Eq.trans rfl (congrArg Value.bool (decide_eq_false c0))) rfl rfl rfl (reg_unguard rfl rfl (Eq.trans rfl (congrArg Value.bool (decide_eq_false c0))) rfl rfl rfl ?_))))))))
 refine r_pick (t := false) (Value.bool false) (Eq.trans rfl (congrArg Value.bool (decide_eq_false c0))) ((if_neg Bool.false_ne_true).trans rfl) rfl (r_move (Value.bool false) rfl rfl (reg_unguard rfl rfl rfl rfl rfl rfl (reg_unguard rfl rfl rfl rfl rfl rfl (reg_unguard rfl rfl rfl rfl rfl rfl ?_))))
 refine r_pick (t := false) (Value.bool false) rfl ((if_neg Bool.false_ne_true).trans rfl) rfl (reg_nil (run_cond_false rfl (run_skip (run_inBlock (run_region ?_)))))
 refine r_add (a3 + 1) (by exact f7) rfl (IntWalk.i64_in _ (by omega)) rfl (r_move (vI (a3 + 1)) rfl rfl (reg_nil ?_))
 exact o1 _ _ ⟨b0, (a3 + 1), (upd8 a4 a3 (idx8 a5.1 a3)), b1, h6, c4, c8, hsub, hS, (by omega), c9, b8, a6, a7, b6, a9, e0, g1, g2, g3, g4, f0, f4, f5, f6, rfl⟩
 intro p8
 by_cases l7 : 0 < (idx8 a5.1 a3)
 rw [if_pos l7] at d4
 refine run_cond_true (Eq.trans rfl (congrArg Value.bool (decide_eq_true l7))) (run_seq (run_region ?_))
 refine r_loadAll ty188 (by exact i2) (hS.get (mR mL)) rfl rfl ?_
 refine r_alloc (z := vA (enc8 .i64 (fun _ => 0))) (enc8 .i64 (fun _ => 0)).toArray ze188.zero rfl hS rfl ?_
 intro f9 w42 hS
 refine r_storeAll (v := vA (enc8 .i64 a5.1)) (vs := (enc8 .i64 a5.1).toArray) (cs := (enc8 .i64 (fun _ => 0)).toArray) ty188 rfl rfl rfl hS rfl (enc8_one .i64 a5.1) rfl ?_
 intro w44 hS
 refine reg_nil (run_seq (run_seq (run_region (r_move (vI a3) rfl rfl ?_))))
 refine r_add (a3 + 1) rfl rfl (IntWalk.i64_in _ (by omega)) rfl (r_move (vI 0) rfl rfl (reg_nil (run_block ?_)))
 obtain ⟨p9, d8, e7⟩ := bind_some d4
 refine loop_ind (id := 4) (fun k f w => ∃ (b4 : Int) (b7 : A8) (H1 : FH), g_impl_Algebra_d_l2 K a3 k b4 b7 = some p9 ∧ Sub H H1 ∧ St H1 w ([(f9, cA (enc8 .i64 b7) 188)] ++ ([(d7, cA (enc8 .i64 a4) 188)] ++ ([(d6, cA (enc8 .i64 a5.1) 188)] ++ (d0 ++ ([(b9, cA (encV u6) 182)] ++ (b2 ++ L)))))) ∧ 0 ≤ b4 ∧ RdV .i64 H1 u6 r6 ∧ RdSl (tyInt .i64) H1 c3 a0.1 ∧ RdSl (tySl yT) H1 e9 a0.2 ∧ OwnMp .i64 m1 c1 b2 ∧ ItMp .i64 H1 d1 g0 (some a5) d0 ∧ H1 c2 = some (.cells h8 k2) ∧ ev f (.tmp 0) = Value.pointer (some ⟨c2, c5, none⟩) ∧ ev f (.tmp 5) = m1 ∧ ev f (.tmp 6) = vP b9 ∧ ev f (.tmp 7) = vP d6 ∧ ev f (.tmp 8) = vI a5.2 ∧ ev f (.tmp 9) = vP d7 ∧ ev f (.tmp 10) = vI b0 ∧ ev f (.tmp 11) = vI a3 ∧ ev f (.tmp 12) = vI (idx8 a5.1 a3) ∧ ev f (.tmp 13) = vP f9 ∧ ev f (.tmp 21) = d1 ∧ ev f (.tmp 28) = vA (enc8 .i64 a5.1) ∧ ev f (.tmp 29) = vI a3 ∧ ev f (.tmp 37) = vI (a3 + 1) ∧ ev f (.tmp 38) = vI b4) (fun f w => ∃ (a8 : A8) (H1 : FH), p9 = .go a8 ∧ Sub H H1 ∧ St H1 w ([(f9, cA (enc8 .i64 a8) 188)] ++ ([(d7, cA (enc8 .i64 a4) 188)] ++ ([(d6, cA (enc8 .i64 a5.1) 188)] ++ (d0 ++ ([(b9, cA (encV u6) 182)] ++ (b2 ++ L)))))) ∧ RdV .i64 H1 u6 r6 ∧ RdSl (tyInt .i64) H1 c3 a0.1 ∧ RdSl (tySl yT) H1 e9 a0.2 ∧ OwnMp .i64 m1 c1 b2 ∧ ItMp .i64 H1 d1 g0 (some a5) d0 ∧ H1 c2 = some (.cells h8 k2) ∧ ev f (.tmp 0) = Value.pointer (some ⟨c2, c5, none⟩) ∧ ev f (.tmp 5) = m1 ∧ ev f (.tmp 6) = vP b9 ∧ ev f (.tmp 7) = vP d6 ∧ ev f (.tmp 8) = vI a5.2 ∧ ev f (.tmp 9) = vP d7 ∧ ev f (.tmp 10) = vI b0 ∧ ev f (.tmp 11) = vI a3 ∧ ev f (.tmp 12) = vI (idx8 a5.1 a3) ∧ ev f (.tmp 13) = vP f9 ∧ ev f (.tmp 21) = d1 ∧ ev f (.tmp 28) = vA (enc8 .i64 a5.1) ∧ ev f (.tmp 29) = vI a3) rfl ?_ ?_ K ?_ ?_
 rintro f w ⟨b4, b7, H1, d8, _⟩
 rw [g_impl_Algebra_d_l2] at d8; cases d8
 rintro k a87 a88 ih2 hx2 ⟨b4, b7, q1, d8, hsub, hS, a29, b8, a6, a7, b3, b6, a9, k7, k8, k9, l0, l1, l2, j1, j2, j3, h1, j4, j5, j6, j7, h3⟩
 rw [g_impl_Algebra_d_l2] at d8
 refine run_seq (run_region ?_)
 refine r_lss (k := .i64) (a := b4) (b := (a3 + 1)) (by exact h3) (by exact j7) rfl (reg_nil (run_seq ?_))
 by_cases l9 : b4 < (a3 + 1)
 rw [if_pos l9] at d8
 refine run_cond_true (Eq.trans rfl (congrArg Value.bool (decide_eq_true l9))) (run_skip (run_seq (run_block (run_seq (run_region (r_move (vI b4) (by exact h3) rfl (r_assign (vI b4) rfl rfl (reg_nil (run_region (r_move (vI b4) rfl rfl ?_))))))))))
 obtain ⟨a89, d8⟩ := gd d8
 refine r_indexArP ar188 (by exact h1) rfl (by omega) (by omega) rfl ?_
 refine r_store (v := vI 0) (cs := (enc8 .i64 b7).toArray) (cs' := (enc8 .i64 (upd8 b7 b4 0)).toArray) ty3 rfl rfl hS rfl (oneL rfl) (by simp [enc8, encV]; omega) (enc8_set (by omega) (by omega)) ?_
 intro w47 hS
 refine reg_nil (run_inBlock (run_region ?_))
 refine r_add (b4 + 1) (by exact h3) rfl (IntWalk.i64_in _ (by omega)) rfl (r_move (vI (b4 + 1)) rfl rfl (reg_nil ?_))
 exact ih2 _ _ ⟨(b4 + 1), (upd8 b7 b4 0), q1, d8, hsub, hS, (by omega), b8, a6, a7, b3, b6, a9, k7, k8, k9, l0, l1, l2, j1, j2, j3, h1, j4, j5, j6, j7, rfl⟩
 rw [if_neg l9] at d8
 refine run_cond_false (Eq.trans rfl (congrArg Value.bool (decide_eq_false l9))) ?_
 refine run_exit rfl ?_
 have hz := Option.some.inj d8
 subst hz
 exact hx2 _ _ ⟨b7, q1, rfl, hsub, hS, b8, a6, a7, b3, b6, a9, k7, k8, k9, l0, l1, l2, j1, j2, j3, h1, j4, j5, j6⟩
 exact ⟨0, a5.1, n0, d8, hsub, hS, (by omega), b8, a6, a7, b3, b6, a9, h9, i0, i1, i2, k5, k6, i9, rfl, rfl, rfl, g8, g9, e3, rfl, rfl⟩
 rintro a90 a91 ⟨a8, a92, rfl, hsub, hS, b8, a6, a7, b3, b6, a9, i3, o5, l3, o6, o7, l4, n1, h4, j8, n2, n3, n4, n5⟩
 dsimp only [Ex.elim] at e7
 refine run_seq (run_region ?_)
 refine r_loadAll ty188 (by exact l4) (hS.get (mR mL)) rfl rfl ?_
 refine r_alloc (z := vA (enc8 .i64 (fun _ => 0))) (enc8 .i64 (fun _ => 0)).toArray ze188.zero rfl hS rfl ?_
 intro h7 w49 hS
 refine r_storeAll (v := vA (enc8 .i64 a4)) (vs := (enc8 .i64 a4).toArray) (cs := (enc8 .i64 (fun _ => 0)).toArray) ty188 rfl rfl rfl hS rfl (enc8_one .i64 a4) rfl ?_
 intro w51 hS
 refine reg_nil (run_seq (run_region (r_move (vI a3) (by exact h4) rfl (r_move (vI (idx8 a5.1 a3)) (by exact j8) rfl ?_))))
 refine r_sub (IntKind.i64.wrap ((idx8 a5.1 a3) - 1)) rfl rfl rfl rfl ?_
 refine r_indexArP ar188 rfl rfl (by omega) (by omega) rfl ?_
 refine r_store (v := vI (IntKind.i64.wrap ((idx8 a5.1 a3) - 1))) (cs := (enc8 .i64 a4).toArray) (cs' := (enc8 .i64 (upd8 a4 a3 (IntKind.i64.wrap ((idx8 a5.1 a3) - 1)))).toArray) ty3 rfl rfl hS rfl (oneL rfl) (by simp [enc8, encV]; omega) (enc8_set (by omega) (by omega)) ?_
 intro w52 hS
 refine reg_nil (run_seq ?_)
 obtain ⟨g6, s6, e7⟩ := bind_some e7
 obtain ⟨f1, s7, e7⟩ := bind_some e7
 refine run_draw 22 (tabL [(49, MP.mk0), (50, MP.eq (vA (enc8 .i64 (upd8 a4 a3 (IntKind.i64.wrap ((idx8 a5.1 a3) - 1)))))), (51, MP.mp .i64 ((mput ([] : MpT) (upd8 a4 a3 (IntKind.i64.wrap ((idx8 a5.1 a3) - 1))) 1))), (52, MP.eq (Value.pointer (some ⟨c2, c5, none⟩))), (53, MP.eq (Value.pointer (some ⟨c2, c5, none⟩))), (54, MP.eq (Value.pointer (some ⟨c2, c5 + 0, none⟩))), (55, MP.eq (c3)), (56, MP.eq (vI a3)), (57, MP.eq (Value.pointer (some ⟨b9, 0 + (a3).toNat * 1, none⟩))), (58, MP.mp .i64 ((idxM r6 a3))), (59, MP.mp .i64 (g6)), (60, MP.eq (Value.pointer (some ⟨c2, c5, none⟩))), (61, MP.eq (Value.pointer (some ⟨c2, c5, none⟩))), (62, MP.eq (Value.pointer (some ⟨c2, c5 + 0, none⟩))), (63, MP.eq (c3)), (64, MP.mk0), (65, MP.eq (vA (enc8 .i64 a8))), (66, MP.mp .i64 ((mput ([] : MpT) a8 1))), (67, MP.mp .i64 (f1)), (16, MP.mp .i64 (f1))]) [Co.fz 0 49 2 (MP.mp .i64 ((mput ([] : MpT) (upd8 a4 a3 (IntKind.i64.wrap ((idx8 a5.1 a3) - 1))) 1))), Co.fz 16 64 18 (MP.mp .i64 ((mput ([] : MpT) a8 1)))] mixed rfl (conOk_num (ns := [(0, 49, 2, 0, 49), (16, 64, 18, 16, 64)]) rfl rfl) rfl hS (hop_q rfl ?_ (hop_q rfl ?_ (hop_s rfl ?_ (hop_q rfl ?_ (hop_q rfl ?_ (hop_q rfl ?_ (hop_q rfl ?_ (hop_q rfl ?_ (hop_q rfl ?_ (hop_q rfl ?_ (hop_q rfl ?_ (hop_q rfl ?_ (hop_q rfl ?_ (hop_q rfl ?_ (hop_q rfl ?_ (hop_q rfl ?_ (hop_q rfl ?_ (hop_q rfl ?_ (hop_s rfl ?_ (hop_q rfl ?_ (hop_q rfl ?_ (hop_q rfl ?_ hop_nil)))))))))))))))))))))) ?_
 intro f53 w54 H55 X56 a93 hS a94 a95 hcq
 refine r_makeMap0 hS rfl ?_
 intro b64 w61 hS
 exact qn (.refl _) rfl hS ⟨_, rfl⟩
 intro f65 w66 H67 X68 a96 hS y5 a97 hcq
 have q73 : ev f65 (.tmp 15) = vP h7 := Eq.trans (y5 15 rfl) rfl
 refine r_loadAll ty188 q73 (hS.get (mR mL)) rfl rfl ?_
 exact qn (.refl _) rfl hS rfl
 intro m4 w75 x8 X77 a98 hS a99 q2 hcq
 have hsub := Sub.refl x8
 obtain ⟨m5, m6⟩ := q2 0 49 rfl rfl
 have m6 : m4 49 = Value.map (some m5) := m6
 have hS : St x8 w75 (mapRes (m4 49) ++ (X77 ++ ([(h7, cA (enc8 .i64 (upd8 a4 a3 (IntKind.i64.wrap ((idx8 a5.1 a3) - 1)))) 188)] ++ ([(f9, cA (enc8 .i64 a8) 188)] ++ ([(d7, cA (enc8 .i64 a4) 188)] ++ ([(d6, cA (enc8 .i64 a5.1) 188)] ++ (d0 ++ ([(b9, cA (encV u6) 182)] ++ (b2 ++ L))))))))) := hS
 rw [m6] at hS
 have y6 : OwnMp .i64 (Value.map (some m5)) [] [(m5, .map #[] 0)] := OwnMp.new m5
 have q86 : ev m4 (.tmp 49) = Value.map (some m5) := m6
 have q87 : ev m4 (.tmp 50) = vA (enc8 .i64 (upd8 a4 a3 (IntKind.i64.wrap ((idx8 a5.1 a3) - 1)))) := q2 1 50 rfl rfl
 refine r_insert (a := (upd8 a4 a3 (IntKind.i64.wrap ((idx8 a5.1 a3) - 1)))) (m := 1) mp109 q86 q87 rfl y6 hS ?_
 intro w88 C89 y7 hS
 obtain ⟨H91, y8, hS, y9⟩ := y7.freeze hS
 have hsub := hsub.trans y8
 exact reg_nil ⟨_, rfl, rfl, hsub, hS, by show RdMp _ _ (m4 49) _; rw [m6]; exact y9⟩
 intro f94 w95 H96 X97 aa0 hS aa1 a47 hcq
 obtain ⟨q3, q4⟩ : ∃ v, ev f94 (.tmp 49) = v := ⟨_, rfl⟩
 have s8 : RdMp .i64 H96 q3 ((mput ([] : MpT) (upd8 a4 a3 (IntKind.i64.wrap ((idx8 a5.1 a3) - 1))) 1)) := q4 ▸ (hcq 2 _ rfl rfl)
 refine r_move (q3) q4 rfl ?_
 exact qn (.refl _) rfl hS s8
 intro aa2 aa3 aa4 aa5 a48 hS s9 a49 hcq
 refine r_move (Value.pointer (some ⟨c2, c5, none⟩)) (evT (s9 0 rfl) i3) rfl ?_
 exact qn (.refl _) rfl hS rfl
 intro z0 aa6 aa7 aa8 a50 hS a51 t0 hcq
 have z1 : ev z0 (.tmp 52) = Value.pointer (some ⟨c2, c5, none⟩) := t0 4 52 rfl rfl
 refine r_nilCheck z1 rfl ?_
 exact qn (.refl _) rfl hS rfl
 intro z2 aa9 ab0 ab1 a52 hS a53 t1 hcq
 have z3 : ev z2 (.tmp 53) = Value.pointer (some ⟨c2, c5, none⟩) := t1 5 53 rfl rfl
 refine r_fieldAddr fld29_0 z3 rfl ?_
 exact qn (.refl _) rfl hS rfl
 intro z4 ab2 ab3 ab4 t4 hS a54 t5 hcq
 have a9 := t4.1 _ _ a9
 have z5 : ev z4 (.tmp 54) = Value.pointer (some ⟨c2, c5 + 0, none⟩) := t5 6 54 rfl rfl
 refine r_loadOne (c3) ty22 z5 (hS.froz _ _ a9) (i8 0 (show 0 < 2 by decide)) rfl ?_
 exact qn (.refl _) rfl hS rfl
 intro ab5 ab6 ab7 ab8 a55 hS t6 a56 hcq
 refine r_move (vI a3) (evT (t6 11 rfl) h4) rfl ?_
 exact qn (.refl _) rfl hS rfl
 intro z6 ab9 ac0 ac1 a57 hS t7 t8 hcq
 have z7 : ev z6 (.tmp 56) = vI a3 := t8 8 56 rfl rfl
 refine r_indexArP ar182 (evT (t7 6 rfl) l3) z7 (by omega) (by omega) rfl ?_
 exact qn (.refl _) rfl hS rfl
 intro z8 ac2 ac3 ac4 t9 hS a58 u0 hcq
 have b8 := b8.mono t9
 have z9 : ev z8 (.tmp 57) = Value.pointer (some ⟨b9, 0 + (a3).toNat * 1, none⟩) := u0 9 57 rfl rfl
 have u1 := RdV.at b8 (a3)
 refine r_loadOne (idxV u6 a3) ty109 z9 (hS.get (o := cA (encV u6) 182) (mR (mR (mR (mR (mR (mR mL))))))) (encV_get (by omega) (by omega)) rfl ?_
 exact qn (.refl _) rfl hS u1
 intro n6 ac5 n7 ac6 u2 hS a59 m0 hcq
 have hsub := Sub.refl n7
 have a6 := a6.mono u2
 obtain ⟨a00, q5⟩ : ∃ v, ev n6 (.tmp 51) = v := ⟨_, rfl⟩
 have u3 : RdMp .i64 n7 a00 ((mput ([] : MpT) (upd8 a4 a3 (IntKind.i64.wrap ((idx8 a5.1 a3) - 1))) 1)) := q5 ▸ (m0 3 51 rfl rfl)
 have a01 : ev n6 (.tmp 55) = c3 := m0 7 55 rfl rfl
 obtain ⟨a02, q6⟩ : ∃ v, ev n6 (.tmp 58) = v := ⟨_, rfl⟩
 have u4 : RdMp .i64 n7 a02 ((idxM r6 a3)) := q6 ▸ (m0 10 58 rfl rfl)
 refine r_callFn Tryz.call131 (args3 q5 a01 q6) rfl (g_impl_sum_times_ok s6 u3 a6 u4 hS) ?_
 rintro ac7 ac8 ⟨ac9, ad0, ad1, rfl, u5, hS, u7⟩
 refine ⟨_, rfl, ?_⟩
 have hsub := hsub.trans u5
 obtain ⟨ad2, u8, hS, u9⟩ := u7.freeze hS
 have hsub := hsub.trans u8
 exact reg_nil ⟨59, _, _, rfl, rfl, hsub, hS, u9⟩
 intro ad3 ad4 ad5 ad6 a60 hS v0 a61 hcq
 refine r_move (Value.pointer (some ⟨c2, c5, none⟩)) (evT (v0 0 rfl) i3) rfl ?_
 exact qn (.refl _) rfl hS rfl
 intro a03 ad7 ad8 ad9 a62 hS a63 v1 hcq
 have a04 : ev a03 (.tmp 60) = Value.pointer (some ⟨c2, c5, none⟩) := v1 12 60 rfl rfl
 refine r_nilCheck a04 rfl ?_
 exact qn (.refl _) rfl hS rfl
 intro a05 ae0 ae1 ae2 a64 hS a65 v2 hcq
 have a06 : ev a05 (.tmp 61) = Value.pointer (some ⟨c2, c5, none⟩) := v2 13 61 rfl rfl
 refine r_fieldAddr fld29_0 a06 rfl ?_
 exact qn (.refl _) rfl hS rfl
 intro a07 ae3 ae4 ae5 v3 hS a66 v4 hcq
 have a9 := v3.1 _ _ a9
 have a08 : ev a07 (.tmp 62) = Value.pointer (some ⟨c2, c5 + 0, none⟩) := v4 14 62 rfl rfl
 refine r_loadOne (c3) ty22 a08 (hS.froz _ _ a9) (i8 0 (show 0 < 2 by decide)) rfl ?_
 exact qn (.refl _) rfl hS rfl
 intro ae6 ae7 ae8 ae9 a67 hS a68 a69 hcq
 refine r_makeMap0 hS rfl ?_
 intro af0 af1 hS
 exact qn (.refl _) rfl hS ⟨_, rfl⟩
 intro af2 af3 af4 af5 a70 hS v5 a71 hcq
 refine r_loadAll ty188 (evT (v5 13 rfl) n2) (hS.get (mR (mR mL))) rfl rfl ?_
 exact qn (.refl _) rfl hS rfl
 intro j9 a09 q7 a10 a72 hS a73 o2 hcq
 have hsub := Sub.refl q7
 obtain ⟨k0, k1⟩ := o2 16 64 rfl rfl
 have k1 : j9 64 = Value.map (some k0) := k1
 have hS : St q7 a09 (mapRes (j9 64) ++ (a10 ++ ([(h7, cA (enc8 .i64 (upd8 a4 a3 (IntKind.i64.wrap ((idx8 a5.1 a3) - 1)))) 188)] ++ ([(f9, cA (enc8 .i64 a8) 188)] ++ ([(d7, cA (enc8 .i64 a4) 188)] ++ ([(d6, cA (enc8 .i64 a5.1) 188)] ++ (d0 ++ ([(b9, cA (encV u6) 182)] ++ (b2 ++ L))))))))) := hS
 rw [k1] at hS
 have v7 : OwnMp .i64 (Value.map (some k0)) [] [(k0, .map #[] 0)] := OwnMp.new k0
 have a11 : ev j9 (.tmp 64) = Value.map (some k0) := k1
 have a12 : ev j9 (.tmp 65) = vA (enc8 .i64 a8) := o2 17 65 rfl rfl
 refine r_insert (a := a8) (m := 1) mp109 a11 a12 rfl v7 hS ?_
 intro af6 af7 v8 hS
 obtain ⟨af8, v9, hS, w0⟩ := v8.freeze hS
 have hsub := hsub.trans v9
 exact reg_nil ⟨_, rfl, rfl, hsub, hS, by show RdMp _ _ (j9 64) _; rw [k1]; exact w0⟩
 intro a13 af9 a14 ag0 a74 hS a75 a76 hcq
 obtain ⟨q8, q9⟩ : ∃ v, ev a13 (.tmp 64) = v := ⟨_, rfl⟩
 have w1 : RdMp .i64 a14 q8 ((mput ([] : MpT) a8 1)) := q9 ▸ (hcq 18 _ rfl rfl)
 refine r_move (q8) q9 rfl ?_
 exact qn (.refl _) rfl hS w1
 intro n8 ag1 n9 ag2 w3 hS a77 m2 hcq
 have hsub := Sub.refl n9
 have a6 := a6.mono w3
 obtain ⟨a15, r0⟩ : ∃ v, ev n8 (.tmp 59) = v := ⟨_, rfl⟩
 have w4 : RdMp .i64 n9 a15 (g6) := r0 ▸ (m2 11 59 rfl rfl)
 have a16 : ev n8 (.tmp 63) = c3 := m2 15 63 rfl rfl
 obtain ⟨a17, r1⟩ : ∃ v, ev n8 (.tmp 66) = v := ⟨_, rfl⟩
 have w5 : RdMp .i64 n9 a17 ((mput ([] : MpT) a8 1)) := r1 ▸ (m2 19 66 rfl rfl)
 refine r_callFn Tryz.call131 (args3 r0 a16 r1) rfl (g_impl_sum_times_ok s7 w4 a6 w5 hS) ?_
 rintro ag3 ag4 ⟨ag5, ag6, ag7, rfl, w6, hS, w8⟩
 refine ⟨_, rfl, ?_⟩
 have hsub := hsub.trans w6
 obtain ⟨ag8, w9, hS, x0⟩ := w8.freeze hS
 have hsub := hsub.trans w9
 exact reg_nil ⟨67, _, _, rfl, rfl, hsub, hS, x0⟩
 intro a18 ag9 a19 ah0 a78 hS a79 x1 hcq
 obtain ⟨r2, r3⟩ : ∃ v, ev a18 (.tmp 67) = v := ⟨_, rfl⟩
 have x2 : RdMp .i64 a19 r2 (f1) := r3 ▸ (x1 20 67 rfl rfl)
 refine r_assign (r2) r3 rfl ?_
 exact qn (.refl _) rfl hS x2
 intro a20 a21 r4 f8 hS c6 x3 hcq
 have hS : St r4 a21 ([(h7, cA (enc8 .i64 (upd8 a4 a3 (IntKind.i64.wrap ((idx8 a5.1 a3) - 1)))) 188)] ++ ([(f9, cA (enc8 .i64 a8) 188)] ++ ([(d7, cA (enc8 .i64 a4) 188)] ++ ([(d6, cA (enc8 .i64 a5.1) 188)] ++ (d0 ++ ([(b9, cA (encV u6) 182)] ++ (b2 ++ L))))))) := hS
 have hsub := hsub.trans f8
 have a6 := a6.mono f8
 have a7 := a7.mono f8
 have b8 := b8.mono f8
 have b3 := b3.mono f8
 have b6 := b6.mono f8
 have a9 := f8.1 _ _ a9
 have r5 := evT (c6 5 rfl) o5
 have r7 := evT (c6 8 rfl) o7
 have r8 := evT (c6 10 rfl) n1
 have r9 := evT (c6 12 rfl) j8
 obtain ⟨s2, s3⟩ : ∃ v, ev a20 (.tmp 16) = v := ⟨_, rfl⟩
 have m3 : RdMp .i64 r4 s2 (f1) := s3 ▸ (x3 21 16 (by decide) rfl)
 refine reg_nil (run_region (r_move (m1) (by exact r5) rfl (r_move (s2) (by exact s3) rfl (r_move (vI b0) (by exact r8) rfl (r_move (vI a5.2) (by exact r7) rfl ?_)))))
 refine r_mul (IntKind.i64.wrap (b0 * a5.2)) rfl rfl rfl rfl (r_move (vI (idx8 a5.1 a3)) (by exact r9) rfl ?_)
 refine r_mul (IntKind.i64.wrap ((IntKind.i64.wrap (b0 * a5.2)) * (idx8 a5.1 a3))) rfl rfl rfl rfl ?_
 obtain ⟨i6, x4, e7⟩ := bind_some e7
 refine r_callFn Tryz.call215 (args1 rfl) rfl (g_impl_field_ok x4  hS) ?_
 rintro ah1 a22 ⟨_, a23, rfl, e4, hS, rfl⟩
 refine ⟨_, rfl, ?_⟩
 have hsub := hsub.trans e4
 have a6 := a6.mono e4
 have a7 := a7.mono e4
 have m3 := m3.mono e4
 have b8 := b8.mono e4
 have b3 := b3.mono e4
 have b6 := b6.mono e4
 have a9 := e4.1 _ _ a9
 obtain ⟨i7, x5, e7⟩ := bind_some e7
 have hS : St a23 a22 (b2 ++ ([(h7, cA (enc8 .i64 (upd8 a4 a3 (IntKind.i64.wrap ((idx8 a5.1 a3) - 1)))) 188)] ++ ([(f9, cA (enc8 .i64 a8) 188)] ++ ([(d7, cA (enc8 .i64 a4) 188)] ++ ([(d6, cA (enc8 .i64 a5.1) 188)] ++ (d0 ++ ([(b9, cA (encV u6) 182)] ++ L))))))) := hS.perm (perm6 (A1 := [(h7, cA (enc8 .i64 (upd8 a4 a3 (IntKind.i64.wrap ((idx8 a5.1 a3) - 1)))) 188)]) (A2 := [(f9, cA (enc8 .i64 a8) 188)]) (A3 := [(d7, cA (enc8 .i64 a4) 188)]) (A4 := [(d6, cA (enc8 .i64 a5.1) 188)]) (A5 := d0) (A6 := [(b9, cA (encV u6) 182)]))
 refine r_callFn Tryz.call132 (args3 rfl rfl rfl) rfl (g_impl_sum_addAll_ok x5 b3 m3 hS) ?_
 rintro ah2 a24 ⟨s4, s5, rfl, g5, hS, x6⟩
 refine ⟨_, rfl, ?_⟩
 have hsub := hsub.trans g5
 have a6 := a6.mono g5
 have a7 := a7.mono g5
 have b8 := b8.mono g5
 have b6 := b6.mono g5
 have a9 := g5.1 _ _ a9
 have hS : St s4 a24 ([(h7, cA (enc8 .i64 (upd8 a4 a3 (IntKind.i64.wrap ((idx8 a5.1 a3) - 1)))) 188)] ++ ([(f9, cA (enc8 .i64 a8) 188)] ++ ([(d7, cA (enc8 .i64 a4) 188)] ++ ([(d6, cA (enc8 .i64 a5.1) 188)] ++ (d0 ++ ([(b9, cA (encV u6) 182)] ++ (s5 ++ L))))))) := hS.perm (perm6 (A1 := [(h7, cA (enc8 .i64 (upd8 a4 a3 (IntKind.i64.wrap ((idx8 a5.1 a3) - 1)))) 188)]) (A2 := [(f9, cA (enc8 .i64 a8) 188)]) (A3 := [(d7, cA (enc8 .i64 a4) 188)]) (A4 := [(d6, cA (enc8 .i64 a5.1) 188)]) (A5 := d0) (A6 := [(b9, cA (encV u6) 182)])).symm
 refine reg_nil ?_
 have hS := St.dropA (A := [(h7, cA (enc8 .i64 (upd8 a4 a3 (IntKind.i64.wrap ((idx8 a5.1 a3) - 1)))) 188)]) hS
 have hS := St.dropA (A := [(f9, cA (enc8 .i64 a8) 188)]) hS
 exact p8 _ _ ⟨i7, s4, s5, e7, hsub, hS, x6, b8, a6, a7, b6, a9, (evT (c6 0 rfl) i3), r5, (evT (c6 6 rfl) l3), (evT (c6 7 rfl) o6), r7, (evT (c6 9 rfl) l4), r8, (evT (c6 11 rfl) h4), r9, (evT (c6 21 rfl) n3), (evT (c6 28 rfl) n4), (evT (c6 29 rfl) n5)⟩
 rw [if_neg l7] at d4
 refine run_cond_false (Eq.trans rfl (congrArg Value.bool (decide_eq_false l7))) (run_skip ?_)
 exact p8 _ _ ⟨c1, n0, b2, d4, hsub, hS, b3, b8, a6, a7, b6, a9, h9, i0, i1, i2, k5, k6, i9, rfl, rfl, g8, g9, e3⟩
 rw [if_neg l5] at d4
 refine run_cond_false (Eq.trans rfl (congrArg Value.bool (decide_eq_false l5))) ?_
 refine run_exit rfl ?_
 have hz := Option.some.inj d4
 subst hz
 exact hx1 _ _ ⟨a4, c1, n0, b2, rfl, hsub, hS, b3, b8, a6, a7, b6, a9, h9, i0, i1, g8⟩
 exact ⟨1, 0, (fun _ => 0), b5, p6, d2, d4, hsub, hS, (by omega), i5, b8, a6, a7, b6, a9, o3, k4, o4, rfl, rfl, rfl, rfl, g7, rfl, rfl⟩
 rintro ah3 ah4 ⟨e1, d9, a25, f3, rfl, hsub, hS, m7, b8, a6, a7, b6, a9, o8, o9, p0, o0⟩
 dsimp only [Ex.elim] at p7
 refine run_inBlock ?_
 have hS := St.dropA (A := [(d7, cA (enc8 .i64 e1) 188)]) hS
 have hS := St.dropA (A := [(d6, cA (enc8 .i64 a5.1) 188)]) hS
 exact ih0 _ _ ⟨g0, d9, a25, d0, f3, p7, hsub, hS, b6.drop, m7, b8, a6, a7, a9, o8, o9, p0, o0⟩
 exact ⟨a1, ([] : MpT), H6, C15, C3, e2, hsub, hS, x9, p3, b8, a6, a7, a9, rfl, rfl, rfl, rfl⟩
 rintro ah5 a26 ⟨e8, a27, c7, d3, rfl, hsub, hS, x7, m8, b8, p1⟩
 dsimp only [Ex.elim] at p5
 refine run_seq (run_region (r_move (m1) (by exact p1) rfl (r_assign (m1) rfl rfl (reg_nil ?_))))
 refine run_ret (vs := [m1]) Tryz.func120 ⟨rfl, trivial⟩ ?_
 have hS : St a27 a26 (d3 ++ (c7 ++ ([(b9, cA (encV u6) 182)] ++ L))) := hS.perm (perm2 (A1 := c7) (A2 := [(b9, cA (encV u6) 182)]))
 have hS := St.dropMid (A := d3) (B := c7) hS
 have hS := St.dropMid (A := d3) (B := [(b9, cA (encV u6) 182)]) hS
 have hz := Option.some.inj p5
 subst hz
 exact ⟨_, _, _, rfl, hsub, hS, m8⟩
def g_laws_toAlgebra (K : Nat) (a0 : ((List Int) × (List MpT))) : Option ((List Int) × (List MpT)) := ((g_laws_toInt64S K a0.1).bind fun b0 => ((g_laws_toFormS K a0.2).bind fun a8 => some (b0, a8)))
theorem g_laws_toAlgebra_ok {K : Nat} {a0 : ((List Int) × (List MpT))} {r : ((List Int) × (List MpT))} (q0 : g_laws_toAlgebra K a0 = some r) {H : FH} {w : World} {L : OL} {s0 : Value} {s1 : Value} (c0 : RdSl (tyInt .i64) H s0 a0.1) (b2 : RdSl (tySl yT) H s1 a0.2) (hS : St H w L) :
 Calls Tryz.prog 17 #[vA ([s0] ++ [s1])] w (Done (fun v G => AlgN H G v r) H L) := by
 have hsub := Sub.refl H
 refine calls_of_run Tryz.func17 rfl Tryz.ntmps17 rfl ?_
 unfold g_laws_toAlgebra at q0
 refine run_seq (run_region ?_)
 refine r_box (v := vA ([s0] ++ [s1])) ([s0] ++ [s1]).toArray rfl rfl hS rfl ?_
 intro b1 w2 hS
 refine r_alloc (z := vA ([vN] ++ [vN])) ([vN] ++ [vN]).toArray ze29.zero rfl hS rfl ?_
 intro b4 w5 hS
 refine reg_nil (run_seq (run_region ?_))
 refine r_alloc (z := vA ([vN] ++ [vN])) ([vN] ++ [vN]).toArray ze29.zero rfl hS rfl ?_
 intro b7 w8 hS
 refine reg_nil (run_seq (run_region (r_fieldAddr fld25_0 rfl rfl ?_)))
 refine r_loadOne (s0) ty22 rfl (hS.get (mR (mR mL))) rfl rfl ?_
 obtain ⟨b0, b6, q0⟩ := bind_some q0
 refine r_callFn Tryz.call83 (args1 rfl) rfl (g_laws_toInt64S_ok b6 c0 hS) ?_
 rintro c5 c6 ⟨a1, c1, rfl, b3, hS, a4⟩
 refine ⟨_, rfl, ?_⟩
 have c4 := a4
 have a6 : RdF (tyInt .i64) H c1 a1 b0 := RdSl.mono (new_anti hsub) a4
 have a4 := RdSl.old a4
 have hsub := hsub.trans b3
 have b2 := b2.mono b3
 refine r_fieldAddr fld29_0 rfl rfl ?_
 refine r_store1 (v := a1) (cs := ([vN] ++ [vN]).toArray) (cs' := ([a1] ++ [vN]).toArray) ty22 rfl rfl hS a4.isOne rfl (Nat.le_of_ble_eq_true rfl) rfl ?_
 intro c7 hS
 refine reg_nil (run_seq (run_region (r_fieldAddr fld25_1 rfl rfl ?_)))
 refine r_loadOne (s1) ty23 rfl (hS.get (mR (mR mL))) rfl rfl ?_
 obtain ⟨a8, b8, q0⟩ := bind_some q0
 refine r_callFn Tryz.call35 (args1 rfl) rfl (g_laws_toFormS_ok b8 b2 hS) ?_
 rintro c8 c9 ⟨a3, a9, rfl, a7, hS, a5⟩
 refine ⟨_, rfl, ?_⟩
 have b5 : RdN (tySl yT) H a9 a3 a8 (roots [a1] ++ ([] : List Nat)) := RdN.keepX (rootIn_sl _) a5 hsub (by rw [List.append_nil]; exact roots_nodup _) (by rw [List.append_nil]; exact RdSl.rootsIn a4)
 have b9 : RdF (tySl yT) H a9 a3 a8 := RdN.old b5
 have a5 := RdSl.old b9
 have hsub := hsub.trans a7
 have a4 := a4.mono a7
 have a6 := a6.mono a7
 refine r_fieldAddr fld29_1 rfl rfl ?_
 refine r_store1 (v := a3) (cs := ([a1] ++ [vN]).toArray) (cs' := ([a1] ++ [a3]).toArray) ty27 rfl rfl hS a5.isOne rfl (Nat.le_of_ble_eq_true rfl) rfl ?_
 intro c2 hS
 refine reg_nil (run_seq (run_region ?_))
 refine r_loadAll ty29 rfl (hS.get mL) rfl rfl ?_
 have hS : St a9 c2 ([(b4, cA ([vN] ++ [vN]) 29)] ++ ([(b7, cA ([a1] ++ [a3]) 29)] ++ ([(b1, cA ([s0] ++ [s1]) 25)] ++ L))) := hS.perm (perm1 (A1 := [(b7, cA ([a1] ++ [a3]) 29)]))
 refine r_storeAll (v := vA ([a1] ++ [a3])) (vs := ([a1] ++ [a3]).toArray) (cs := ([vN] ++ [vN]).toArray) ty29 rfl rfl rfl hS rfl (one_app (one1 a4.isOne) (one1 a5.isOne)) rfl ?_
 intro c3 hS
 have hS : St a9 c3 ([(b7, cA ([a1] ++ [a3]) 29)] ++ ([(b4, cA ([a1] ++ [a3]) 29)] ++ ([(b1, cA ([s0] ++ [s1]) 25)] ++ L))) := hS.perm (perm1 (A1 := [(b7, cA ([a1] ++ [a3]) 29)])).symm
 refine reg_nil ?_
 refine run_ret (vs := [vA ([a1] ++ [a3])]) Tryz.func17 ⟨⟨_, rfl, run_loadAll ty29 (hS.get (mR mL)) rfl⟩, trivial⟩ ?_
 have hz := Option.some.inj q0
 subst hz
 exact ⟨_, _, rfl, hsub, (St.dropA (A := [(b1, cA ([s0] ++ [s1]) 25)]) (St.dropA (A := [(b4, cA ([a1] ++ [a3]) 29)]) (St.dropA (A := [(b7, cA ([a1] ++ [a3]) 29)]) hS))), ⟨_, _, rfl, a6, b5⟩⟩
def g_laws_eqAlgebra (K : Nat) (a0 : ((List Int) × (List MpT))) (a1 : ((List Int) × (List MpT))) : Option Bool := ((g_laws_eqInt64S K a0.1 a1.1).bind fun r7 => (if r7 = true then ((g_laws_eqFormS K a0.2 a1.2).bind fun a4 => (if a4 = true then some true else some false)) else some false))
theorem g_laws_eqAlgebra_ok {K : Nat} {a0 : ((List Int) × (List MpT))} {a1 : ((List Int) × (List MpT))} {r : Bool} (q0 : g_laws_eqAlgebra K a0 a1 = some r) {H : FH} {w : World} {L : OL} {s0 : Value} {s1 : Value} {s2 : Value} {s3 : Value} (b2 : RdSl (tyInt .i64) H s0 a0.1) (a6 : RdSl (tySl yT) H s1 a0.2) (b3 : RdSl (tyInt .i64) H s2 a1.1) (a7 : RdSl (tySl yT) H s3 a1.2) (hS : St H w L) :
 Calls Tryz.prog 19 #[vA ([s0] ++ [s1]), vA ([s2] ++ [s3])] w (Done (fun v G => R.bool.p G v r) H L) := by
 have hsub := Sub.refl H
 refine calls_of_run Tryz.func19 rfl Tryz.ntmps19 rfl ?_
 unfold g_laws_eqAlgebra at q0
 refine run_seq (run_region ?_)
 refine r_box (v := vA ([s0] ++ [s1])) ([s0] ++ [s1]).toArray rfl rfl hS rfl ?_
 intro b1 w2 hS
 refine r_box (v := vA ([s2] ++ [s3])) ([s2] ++ [s3]).toArray rfl rfl hS rfl ?_
 intro b4 w5 hS
 refine r_assign (Value.bool false) rfl rfl (reg_nil (run_seq (run_seq (run_region (r_fieldAddr fld29_0 rfl rfl ?_)))))
 refine r_loadOne (s0) ty22 rfl (hS.get (mR mL)) rfl rfl (r_fieldAddr fld29_0 rfl rfl ?_)
 refine r_loadOne (s2) ty22 rfl (hS.get mL) rfl rfl ?_
 obtain ⟨r7, b5, q0⟩ := bind_some q0
 refine r_callFn Tryz.call24 (args2 rfl rfl) rfl (g_laws_eqInt64S_ok b5 b2 b3 hS) ?_
 rintro e7 w8 ⟨_, H7, rfl, a8, hS, rfl⟩
 refine ⟨_, rfl, ?_⟩
 have hsub := hsub.trans a8
 have a6 := a6.mono a8
 have a7 := a7.mono a8
 refine r_not (b := r7) rfl rfl (reg_nil ?_)
 by_cases a5 : r7 = true
 rw [if_pos a5] at q0
 refine run_cond_false (Eq.trans rfl (congrArg (fun b => Value.bool (!b)) a5)) (run_skip (run_seq (run_seq (run_region (r_fieldAddr fld29_1 rfl rfl ?_)))))
 refine r_loadOne (s1) ty27 rfl (hS.get (mR mL)) rfl rfl (r_fieldAddr fld29_1 rfl rfl ?_)
 refine r_loadOne (s3) ty27 rfl (hS.get mL) rfl rfl ?_
 obtain ⟨a4, a9, q0⟩ := bind_some q0
 refine r_callFn Tryz.call37 (args2 rfl rfl) rfl (g_laws_eqFormS_ok a9 a6 a7 hS) ?_
 rintro b6 b7 ⟨_, b8, rfl, b0, hS, rfl⟩
 refine ⟨_, rfl, ?_⟩
 have hsub := hsub.trans b0
 refine r_not (b := a4) rfl rfl (reg_nil ?_)
 by_cases a3 : a4 = true
 rw [if_pos a3] at q0
 refine run_cond_false (Eq.trans rfl (congrArg (fun b => Value.bool (!b)) a3)) (run_skip (run_seq (run_region (r_assign (Value.bool true) rfl rfl (reg_nil ?_)))))
 refine run_ret (vs := [Value.bool true]) Tryz.func19 ⟨rfl, trivial⟩ ?_
 have hz := Option.some.inj q0
 subst hz
 exact ⟨_, _, rfl, hsub, (St.dropA (A := [(b1, cA ([s0] ++ [s1]) 29)]) (St.dropA (A := [(b4, cA ([s2] ++ [s3]) 29)]) hS)), rfl⟩
 rw [if_neg a3] at q0
 refine run_cond_true (Eq.trans rfl (congrArg (fun b => Value.bool (!b)) (bfalse a3))) (run_seq (run_region (r_assign (Value.bool false) rfl rfl (reg_nil ?_))))
 refine run_ret (vs := [Value.bool false]) Tryz.func19 ⟨rfl, trivial⟩ ?_
 have hz := Option.some.inj q0
 subst hz
 exact ⟨_, _, rfl, hsub, (St.dropA (A := [(b1, cA ([s0] ++ [s1]) 29)]) (St.dropA (A := [(b4, cA ([s2] ++ [s3]) 29)]) hS)), rfl⟩
 rw [if_neg a5] at q0
 refine run_cond_true (Eq.trans rfl (congrArg (fun b => Value.bool (!b)) (bfalse a5))) (run_seq (run_region (r_assign (Value.bool false) rfl rfl (reg_nil ?_))))
 refine run_ret (vs := [Value.bool false]) Tryz.func19 ⟨rfl, trivial⟩ ?_
 have hz := Option.some.inj q0
 subst hz
 exact ⟨_, _, rfl, hsub, (St.dropA (A := [(b1, cA ([s0] ++ [s1]) 29)]) (St.dropA (A := [(b4, cA ([s2] ++ [s3]) 29)]) hS)), rfl⟩
def g_spec_l06Place (K : Nat) (a0 : ((List Int) × (List MpT))) (a1 : Int) : Option Int := ((g_spec_l02Is K (a0.1, a0.2)).bind fun r4 => (if r4 = true then ((g_spec_l01In K a1 0 (IntKind.i64.wrap ((a0.1.length : Int) - 1))).bind fun r8 => (if r8 = true then some 0 else some 2)) else some 1))
theorem g_spec_l06Place_ok {K : Nat} {a0 : ((List Int) × (List MpT))} {a1 : Int} {r : Int} (q0 : g_spec_l06Place K a0 a1 = some r) {H : FH} {w : World} {L : OL} {s0 : Value} {s1 : Value} (a4 : RdSl (tyInt .i64) H s0 a0.1) (a7 : RdSl (tySl yT) H s1 a0.2) (hS : St H w L) :
 Calls Tryz.prog 78 #[vA ([s0] ++ [s1]), vI a1] w (Done (fun v G => (R.int .i64).p G v r) H L) := by
 have hsub := Sub.refl H
 refine calls_of_run Tryz.func78 rfl Tryz.ntmps78 rfl ?_
 unfold g_spec_l06Place at q0
 refine run_seq (run_region ?_)
 refine r_box (v := vA ([s0] ++ [s1])) ([s0] ++ [s1]).toArray rfl rfl hS rfl ?_
 intro b1 w2 hS
 refine r_assign (vI 0) rfl rfl (reg_nil (run_seq (run_block (run_seq (run_region ?_)))))
 refine r_loadAll ty29 rfl (hS.get mL) rfl rfl ?_
 obtain ⟨r4, a8, q0⟩ := bind_some q0
 refine r_callFn Tryz.call92 (args1 rfl) rfl (g_spec_l02Is_ok a8 a4 a7 hS) ?_
 rintro e4 w5 ⟨_, H4, rfl, a6, hS, rfl⟩
 refine ⟨_, rfl, ?_⟩
 have hsub := hsub.trans a6
 have a4 := a4.mono a6
 refine r_not (b := r4) rfl rfl (r_assign (Value.bool (!r4)) rfl rfl (reg_nil ?_))
 by_cases a5 : r4 = true
 rw [if_pos a5] at q0
 refine run_cond_false (Eq.trans rfl (congrArg (fun b => Value.bool (!b)) a5)) (run_seq (run_region (r_move (vI a1) rfl rfl (r_fieldAddr fld29_0 rfl rfl ?_))))
 refine r_loadOne (s0) ty22 rfl (hS.get mL) rfl rfl ?_
 have b2 := a4.bound
 refine r_lenRd sl22 rfl a4 rfl ?_
 refine r_sub (IntKind.i64.wrap ((a0.1.length : Int) - 1)) rfl rfl rfl rfl ?_
 obtain ⟨r8, a9, q0⟩ := bind_some q0
 refine r_callFn Tryz.call93 (args3 rfl rfl rfl) rfl (g_spec_l01In_ok a9  hS) ?_
 rintro e8 w9 ⟨_, H8, rfl, b0, hS, rfl⟩
 refine ⟨_, rfl, ?_⟩
 have hsub := hsub.trans b0
 refine r_not (b := r8) rfl rfl (r_assign (Value.bool (!r8)) rfl rfl (reg_nil ?_))
 by_cases a3 : r8 = true
 rw [if_pos a3] at q0
 refine run_cond_false (Eq.trans rfl (congrArg (fun b => Value.bool (!b)) a3)) (run_skip (run_inBlock (run_seq (run_region (r_assign (vI 0) rfl rfl (reg_nil ?_))))))
 refine run_ret (vs := [vI 0]) Tryz.func78 ⟨rfl, trivial⟩ ?_
 have hz := Option.some.inj q0
 subst hz
 exact ⟨_, _, rfl, hsub, (St.dropA (A := [(b1, cA ([s0] ++ [s1]) 29)]) hS), rfl⟩
 rw [if_neg a3] at q0
 refine run_cond_true (Eq.trans rfl (congrArg (fun b => Value.bool (!b)) (bfalse a3))) (run_seq (run_region (r_assign (vI 2) rfl rfl (reg_nil ?_))))
 refine run_ret (vs := [vI 2]) Tryz.func78 ⟨rfl, trivial⟩ ?_
 have hz := Option.some.inj q0
 subst hz
 exact ⟨_, _, rfl, hsub, (St.dropA (A := [(b1, cA ([s0] ++ [s1]) 29)]) hS), rfl⟩
 rw [if_neg a5] at q0
 refine run_cond_true (Eq.trans rfl (congrArg (fun b => Value.bool (!b)) (bfalse a5))) (run_seq (run_region (r_assign (vI 1) rfl rfl (reg_nil ?_))))
 refine run_ret (vs := [vI 1]) Tryz.func78 ⟨rfl, trivial⟩ ?_
 have hz := Option.some.inj q0
 subst hz
 exact ⟨_, _, rfl, hsub, (St.dropA (A := [(b1, cA ([s0] ++ [s1]) 29)]) hS), rfl⟩
end Go.Proofs.YtfodlhkoafhplaaGreat
