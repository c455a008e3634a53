/- Walks of functions: each computes its pure function, if that gives a value. -/
import Derived.Test.YtabofnehiclkiaaGreatZF28
namespace Go.Proofs.YtabofnehiclkiaaGreat
open Go Go.Proofs.Tryz
set_option linter.unusedSimpArgs false
set_option linter.unusedVariables false
set_option maxRecDepth 100000
set_option maxHeartbeats 8000000
variable {K : Nat} {H : FH} {w : World} {L : OL} {s0 s1 s2 s3 s4 s5 s6 : Value}
def Zw8 (K : Nat) (x : AlX) (ds : List Int) : Option Int :=
  (R8 K ds (fun n => Zo4 K n)).bind fun bad => (Zi1 K x ([] : List MpT)).bind fun c1 => (Zq0 K bad 2).bind fun c2 => (Zv8 K [c1, c2]).bind fun c =>
    if c = 0 then arN K x ds else some c
theorem Wr1 {K : Nat} {x : AlX} {ds : List Int} {r : Int} (q0 : Zw8 K x ds = some r) {H : FH} {w : World} {L : OL} {s0 s1 : Value} (hs0 : Zs8 Yx6 H s0 x) (hs1 : Y3 (Y5 .i64) H s1 ds) (hS : St H w L) :
    Calls prog 100 #[s0, s1] w (fun e w' => ∃ p H' C, e = .returned (.tuple #[p, vI r]) ∧ Sub H H' ∧ St H' w' (C ++ L) ∧ Cx H' p x [] C) := by
  unfold Zw8 at q0
  obtain ⟨bad, h1, q0⟩ := bind_some q0
  obtain ⟨c1, h2, q0⟩ := bind_some q0
  obtain ⟨c2, h3, q0⟩ := bind_some q0
  obtain ⟨c, h4, q0⟩ := bind_some q0
  refine X0 func100 rfl ntmps100 rfl ?_
  repeat refine Z1 ?_
  refine Z0 (Z5 (.pointer none) rfl rfl (Z5 (vI 0) rfl rfl (Z2 ?_)))
  repeat refine Z1 ?_
  refine Z0 (Z3 s1 rfl rfl ?_)
  refine X3 call172 (V2 rfl rfl) rfl (Zh8 h1 hs1 ⟨173, #[], rfl, call173, fun H2 w2 L2 v x b a9 a5 hv a6 => by obtain rfl := hv; exact Yu9 a6 a5⟩ hS) ?_
  rintro _ G1 w1 s1' hS rfl
  have hs0 := hs0.mono s1'
  have hs1 := hs1.mono s1'
  refine Z5 (vB bad) rfl rfl (Z2 ?_)
  repeat refine Z1 ?_
  refine Z0 (Z3 s0 rfl rfl ?_)
  refine U9 call82 (R3 rfl) rfl (Xp6 hs0 hS) ?_
  rintro _ w2 ⟨p, H2, C2, rfl, s2, hS, hC⟩
  refine ⟨_, rfl, ?_⟩
  have hs0 := hs0.mono s2
  have hs1 := hs1.mono s2
  refine Z3 s0 rfl rfl ?_
  refine X3 call79 (V2 rfl rfl) rfl (Yn5 h2 hs0 Y3.nil hS) ?_
  rintro _ G3 w3 s3 hS rfl
  refine Z3 (vB bad) rfl rfl ?_
  refine X3 call80 (V2 rfl rfl) rfl (Ye3 h3 hS) ?_
  rintro _ G4 w4 s4 hS rfl
  refine Zc2 (τ := Y5 .i64) U5 ze2 rfl [vI c1, vI c2] [c1, c2] rfl rfl (Zz7 rfl rfl) (Vg8 rfl rfl) (by decide) (by decide) hS rfl ?_
  intro u5 G5 w5 s5 hS hl5
  refine X3 call78 (R3 rfl) rfl (Xg5 h4 hl5 hS) ?_
  rintro _ G6 w6 s6 hS rfl
  have s36 := (((s3.trans s4).trans s5).trans s6)
  have hC := hC.mono s36
  have hs1 := hs1.mono s36
  have Z4 := (s1'.trans s2).trans s36
  refine Z5 p rfl rfl (Z5 (vI c) rfl rfl (Z2 ?_))
  repeat refine Z1 ?_
  refine Z0 (Z3 (vI c) rfl rfl ?_)
  refine Za0 (k := .i64) (a := c) (b := 0) rfl rfl rfl (Z2 ?_)
  repeat refine Z1 ?_
  refine N4 (fun f w => ∃ (G : FH), Sub H G ∧ St G w (C2 ++ L) ∧ Cx G p x [] C2 ∧ tv f 7 = p ∧ tv f 8 = vI r) ?_ ?_
  · rintro f w ⟨G, Z4, hS, hC, t7, t8⟩
    repeat refine Z1 ?_
    refine Z0 (Z3 p (by exact t7) rfl (Z3 (vI r) (by exact t8) rfl (Z5 p rfl rfl (Z5 (vI r) rfl rfl (Z2 ?_)))))
    exact Y9 (vs := [p, vI r]) func100 ⟨rfl, rfl, trivial⟩ ⟨p, G, C2, rfl, Z4, hS, hC⟩
  intro hJ
  by_cases hc : c = 0
  · rw [if_pos hc] at q0
    refine Z8 (show _ = vB true from congrArg Value.bool (decide_eq_true hc)) ?_
    repeat refine Z1 ?_
    obtain ⟨bp, bm, ap, es, clk, rfl, hbox, hap, rfl, hes⟩ := id hC
    refine Z0 (Z3 (vP bp) rfl rfl (Z3 s1 rfl rfl ?_))
    refine X3 call175 (V2 rfl rfl) rfl (Wk0 q0 hbox hap hs1 hS) ?_
    rintro _ G7 w7 s7 hS rfl
    refine Z5 (vI r) rfl rfl (Z2 ?_)
    exact hJ _ _ ⟨G7, Z4.trans s7, hS, hC.mono s7, rfl, rfl⟩
  · rw [if_neg hc] at q0
    obtain rfl := oi q0
    refine Z7 (show _ = vB false from congrArg Value.bool (decide_eq_false hc)) (Y6 ?_)
    exact hJ _ _ ⟨_, Z4, hS, hC, rfl, rfl⟩
def Ze1 (K : Nat) (x : AlX) (n : Int) : Option (List MpT × Int) :=
  (Zw8 K x [n]).bind fun c => if c = 0 then (Xd2 K x n).bind fun r => (lv0 K x n).bind fun M => Zi0 K M r.1 else some ([], c)
theorem Ya9 {a0 : AlX} {a1 : Int} {r : List MpT × Int} (q0 : Ze1 K a0 a1 = some r) {s0 s1 : Value} (hs0 : Y3 (Y5 .i64) H s0 a0.1) (hs1 : Y3 (X2 yT) H s1 a0.2) (hS : St H w L) :
    Calls prog 36 #[vA ([s0] ++ [s1]), vI a1] w (U7 (fun v G => ∃ v0 v1, v = .tuple #[v0, v1] ∧ RdN (X2 yT) H G v0 r.1 [] ∧ v1 = .int .i64 r.2) H L) := by
  unfold Ze1 at q0
  obtain ⟨c, hc, q0⟩ := bind_some q0
  refine X0 func36 rfl ntmps36 rfl ?_
  repeat refine Z1 ?_
  refine Z0 ?_
  refine T7 (v := vA ([s0] ++ [s1])) ([s0] ++ [s1]).toArray rfl rfl hS rfl ?_
  intro ab w1 hS
  obtain ⟨G0, b9, hS, a6⟩ := St.freezeBox hS
  have hs0 := hs0.mono b9
  have hs1 := hs1.mono b9
  have hap : Zs8 Yx6 G0 (vQ ab 0) a0 := ⟨ab, 0, _, _, _, rfl, a6, ⟨_, _, rfl, ⟨s0, rfl, hs0⟩, ⟨s1, rfl, hs1⟩⟩, Yn9 _ _⟩
  refine Z5 vN rfl rfl (Z5 (vI 0) rfl rfl (Z2 ?_))
  repeat refine Z1 ?_
  refine Z0 (Z3 (vI a1) rfl rfl ?_)
  refine Zc2 (τ := Y5 .i64) U5 ze2 rfl [vI a1] [a1] rfl rfl (E7 rfl) (Zk6 rfl) (by decide) (by decide) hS rfl ?_
  intro u1 G1 w2 s1' hS hl1
  refine U9 call100 (V2 rfl rfl) rfl (Wr1 hc (hap.mono s1') hl1 hS) ?_
  rintro _ w3 ⟨p, H3, C3, rfl, s3, hS, hC⟩
  refine ⟨_, rfl, ?_⟩
  have Z4 := (b9.trans s1').trans s3
  refine Z3 _ rfl rfl (V3 p rfl rfl rfl (V3 (vI c) rfl rfl rfl (Z5 p rfl rfl (Z5 (vI c) rfl rfl (Z2 ?_)))))
  repeat refine Z1 ?_
  refine Z0 (Z3 (vI c) rfl rfl ?_)
  refine M0 (k := .i64) (a := c) (b := 0) rfl rfl rfl (Z2 ?_)
  repeat refine Z1 ?_
  by_cases hc0 : c = 0
  case neg =>
    rw [if_neg hc0] at q0
    obtain rfl := oi q0
    refine Z8 (bO hc0 rfl) ?_
    repeat refine Z1 ?_
    refine Z0 (Z3 (vI c) rfl rfl (Z5 vN rfl rfl (Z5 (vI c) rfl rfl (Z2 ?_))))
    exact Y9 (vs := [vN, vI c]) func36 ⟨rfl, rfl, trivial⟩ ⟨_, _, rfl, Z4, hS.dropA, ⟨_, _, rfl, RdN.nil List.nodup_nil, rfl⟩⟩
  rw [if_pos hc0] at q0
  obtain ⟨q, hq, q0⟩ := bind_some q0
  obtain ⟨M, hM, q0⟩ := bind_some q0
  refine Z7 (bN hc0 rfl) (Y6 ?_)
  repeat refine Z1 ?_
  refine Z0 (Z3 p rfl rfl (Z3 (vI a1) rfl rfl ?_))
  refine U9 call84 (V2 rfl rfl) rfl (Ww3 hq hC (fun k s h => by simp at h) (fun k s h => by simp at h) hS) ?_
  rintro _ w4 ⟨i, s, S4, H4, C4, rfl, s4, hS, hC, hi, hsn, _, hA4, hB4, hX4⟩
  refine ⟨_, rfl, Z3 p rfl rfl (Z3 (vI a1) rfl rfl ?_)⟩
  refine U9 call84 (V2 rfl rfl) rfl (Ww3 hq hC hA4 hB4 hS) ?_
  rintro _ w5 ⟨j, t, S5, H5, C5, rfl, s5, hS, hC, hj, htn, htr, hA5, hB5, hX5⟩
  refine ⟨_, rfl, V4 rfl rfl (Y2 Yq8 rfl rfl ?_)⟩
  obtain ⟨s', hi5, e1, e2, e3, e4, _⟩ := hX5 i s hi
  obtain ⟨bp, bm, ap, es, clk, rfl, hbox, hap, rfl, hes⟩ := hC
  have hmem : ∀ (k : Nat) (u : Lvl) {L' : OL}, S5[k]? = some u → u.chunk ∈ ((bm, Obj.map es clk) :: S5.map Lvl.chunk) ++ L' := fun k u L' h => List.mem_append_left _ (List.mem_cons_of_mem _ (List.mem_map.2 ⟨u, List.mem_of_getElem? h, rfl⟩))
  refine Y0 t.c3 Zr5 rfl (hS.own t.chunk (hmem j t hj)) rfl rfl ?_
  obtain ⟨Ms, hMs, hsv0, _⟩ := (hA5 i s' hi5).1
  rw [e1, hsn, hM] at hMs
  obtain rfl := oi hMs
  have Z4 := (Z4.trans s4).trans s5
  refine X3 call101 (V2 rfl rfl) rfl (Wm8 (bl := s.b) (cs := s'.cs) q0 (by have := hmem i s' (L' := L) hi5; rw [← e2]; exact this) rfl hsv0 htr.1.2 hS) ?_
  rintro _ G6 w6 s6 hS ⟨v0, v1, rfl, hv0, rfl⟩
  refine V3 v0 rfl rfl rfl (V3 (vI r.2) rfl rfl rfl (Z5 v0 rfl rfl (Z5 (vI r.2) rfl rfl (Z2 ?_))))
  exact Y9 (vs := [v0, vI r.2]) func36 ⟨rfl, rfl, trivial⟩ ⟨_, _, rfl, Z4.trans s6, hS.dropA, ⟨_, _, rfl, RdN.anti hv0 Z4, rfl⟩⟩
end Go.Proofs.YtabofnehiclkiaaGreat
