/- Walks of functions: each computes its pure function, if that gives a value. -/
import Derived.Test.YtfodlhkoafhplaaGreatCTy
import Derived.Test.YtfodlhkoafhplaaGreatCF18
import Derived.Test.YtfodlhkoafhplaaGreatCF1
import Derived.Test.YtfodlhkoafhplaaGreatCF6
import Derived.Test.YtfodlhkoafhplaaGreatCF11
namespace Go.Proofs.YtfodlhkoafhplaaGreat
open Go
set_option linter.unusedSimpArgs false
set_option linter.unusedVariables false
def g_impl_algebraCode (K : Nat) (a0 : ((List Int) × (List MpT))) (a1 : (List MpT)) : Option Int := ((g_impl_IsAlgebra K (a0.1, a0.2)).bind fun r8 => (if r8 = true then ((g_slices_ContainsFunc_Simpl_Form_impl_Form K a1 (fun x => g_impl_algebraCode_c1 K x (a0.1, a0.2))).bind fun a8 => ((g_impl_when K a8 1).bind fun b2 => some b2)) else ((g_impl_when K true 1).bind fun b3 => some b3)))
set_option maxRecDepth 100000 in
set_option maxHeartbeats 1000000 in
theorem g_impl_algebraCode_ok {K : Nat} {a0 : ((List Int) × (List MpT))} {a1 : (List MpT)} {r : Int} (q0 : g_impl_algebraCode K a0 a1 = some r) {H : FH} {w : World} {L : OL} {s0 : Value} {s1 : Value} (c8 : PtrF (tyPr (tySl (tyInt .i64)) (tySl (tySl yT))) H s0 a0) (a9 : RdSl (tySl yT) H s1 a1) (hS : St H w L) :
 Calls Tryz.prog 85 #[s0, s1] w (Done (fun v G => (R.int .i64).p G v r) H L) := by
 obtain ⟨b4, b5, d4, d5, _, rfl, a6, ⟨_, _, rfl, ⟨b7, rfl, a3⟩, ⟨b8, rfl, a4⟩⟩, b9⟩ := c8
 have hsub := Sub.refl H
 refine calls_of_run Tryz.func85 rfl Tryz.ntmps85 rfl ?_
 unfold g_impl_algebraCode at q0
 refine run_seq (run_region ?_)
 refine r_box (v := Value.pointer (some ⟨b4, b5, none⟩)) ([Value.pointer (some ⟨b4, b5, none⟩)]).toArray rfl rfl hS rfl ?_
 intro b1 w2 hS
 refine r_assign (vI 0) rfl rfl ?_
 refine reg_nil (run_seq ?_)
 obtain ⟨H4, b0, hS, b6⟩ := St.freezeBox hS
 have c1 := frozAll ([Value.pointer (some ⟨b4, b5, none⟩)]) 1
 have hsub := hsub.trans b0
 have a9 := a9.mono b0
 have a3 := a3.mono b0
 have a4 := a4.mono b0
 have a6 := b0.1 _ _ a6
 refine run_region ?_
 refine r_loadOne (Value.pointer (some ⟨b4, b5, none⟩)) ty102 rfl (hS.froz _ _ b6) (c1 0 (show 0 < 1 by decide)) rfl ?_
 refine r_nilCheck rfl rfl ?_
 refine r_loadAgg ([b7] ++ [b8]) ty29 rfl (hS.froz _ _ a6) rfl b9 rfl ?_
 obtain ⟨r8, c9, q0⟩ := bind_some q0
 refine r_callFn Tryz.call45 (args1 rfl) rfl (g_impl_IsAlgebra_ok c9 a3 a4 hS) ?_
 rintro e8 w9 ⟨_, H8, rfl, a7, hS, rfl⟩
 refine ⟨_, rfl, ?_⟩
 have hsub := hsub.trans a7
 have a9 := a9.mono a7
 have a3 := a3.mono a7
 have a4 := a4.mono a7
 have b6 := a7.1 _ _ b6
 have a6 := a7.1 _ _ a6
 refine r_not (b := r8) rfl rfl ?_
 refine r_move (Value.bool (!r8)) rfl rfl ?_
 by_cases a5 : r8 = true
 rw [if_pos a5] at q0
 refine reg_guard rfl rfl (Eq.trans rfl (congrArg (fun b => Value.bool (!b)) a5)) ?_
 refine r_move (s1) rfl rfl ?_
 refine reg_guard rfl rfl (Eq.trans rfl (congrArg (fun b => Value.bool (!b)) a5)) ?_
 refine r_makeFunc1 rfl rfl ?_
 obtain ⟨a8, c2, q0⟩ := bind_some q0
 refine reg_guard rfl rfl (Eq.trans rfl (congrArg (fun b => Value.bool (!b)) a5)) ?_
 refine r_callFn Tryz.call127 (args2 rfl rfl) rfl (g_slices_ContainsFunc_Simpl_Form_impl_Form_ok c2 a9 ⟨174, #[vP b1], rfl, Tryz.call174, fun H2 w2 L2 v x b d0 d1 hv d2 => by obtain ⟨_, rfl, ⟨d3, rfl, c0⟩⟩ := hv; exact g_impl_algebraCode_c1_ok d2 c0 (PtrF.mono d0 ⟨_, _, _, _, _, rfl, b6, ⟨_, rfl, ⟨_, _, _, _, _, rfl, a6, ⟨_, _, rfl, ⟨_, rfl, a3⟩, ⟨_, rfl, a4⟩⟩, b9⟩⟩, c1⟩) d1⟩ hS) ?_
 rintro d6 d7 ⟨_, d8, rfl, c3, hS, rfl⟩
 refine ⟨_, rfl, ?_⟩
 have hsub := hsub.trans c3
 refine r_pick (t := false) (Value.bool a8) (Eq.trans rfl (congrArg (fun b => Value.bool (!b)) a5)) ((if_neg Bool.false_ne_true).trans rfl) rfl ?_
 refine r_assign (Value.bool a8) rfl rfl ?_
 refine reg_nil (run_seq ?_)
 refine run_region ?_
 refine r_move (Value.bool a8) rfl rfl ?_
 obtain ⟨b2, c4, q0⟩ := bind_some q0
 refine r_callFn Tryz.call86 (args2 rfl rfl) rfl (g_impl_when_ok c4  hS) ?_
 rintro d9 e0 ⟨_, e1, rfl, c5, hS, rfl⟩
 refine ⟨_, rfl, ?_⟩
 have hsub := hsub.trans c5
 refine r_assign (vI b2) rfl rfl ?_
 refine reg_nil ?_
 refine run_ret (vs := [vI b2]) Tryz.func85 ⟨rfl, trivial⟩ ?_
 have hz := Option.some.inj q0
 subst hz
 exact ⟨_, _, rfl, hsub, hS, rfl⟩
 rw [if_neg a5] at q0
 refine reg_unguard rfl rfl (Eq.trans rfl (congrArg (fun b => Value.bool (!b)) (bfalse a5))) rfl rfl rfl ?_
 refine reg_unguard rfl rfl (Eq.trans rfl (congrArg (fun b => Value.bool (!b)) (bfalse a5))) rfl rfl rfl ?_
 refine reg_unguard rfl rfl (Eq.trans rfl (congrArg (fun b => Value.bool (!b)) (bfalse a5))) rfl rfl rfl ?_
 refine r_pick (t := true) (Value.bool true) (Eq.trans rfl (congrArg (fun b => Value.bool (!b)) (bfalse a5))) ((if_pos rfl).trans rfl) rfl ?_
 refine r_assign (Value.bool true) rfl rfl ?_
 refine reg_nil (run_seq ?_)
 refine run_region ?_
 refine r_move (Value.bool true) rfl rfl ?_
 obtain ⟨b3, c6, q0⟩ := bind_some q0
 refine r_callFn Tryz.call86 (args2 rfl rfl) rfl (g_impl_when_ok c6  hS) ?_
 rintro e2 e3 ⟨_, e4, rfl, c7, hS, rfl⟩
 refine ⟨_, rfl, ?_⟩
 have hsub := hsub.trans c7
 refine r_assign (vI b3) rfl rfl ?_
 refine reg_nil ?_
 refine run_ret (vs := [vI b3]) Tryz.func85 ⟨rfl, trivial⟩ ?_
 have hz := Option.some.inj q0
 subst hz
 exact ⟨_, _, rfl, hsub, hS, rfl⟩
end Go.Proofs.YtfodlhkoafhplaaGreat
