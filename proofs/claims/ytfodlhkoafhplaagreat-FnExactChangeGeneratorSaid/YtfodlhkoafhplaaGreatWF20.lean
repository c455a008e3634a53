/- Walks of functions: each computes its pure function, if that gives a value. -/
import Derived.Test.YtfodlhkoafhplaaGreatWTy
import Derived.Test.YtfodlhkoafhplaaGreatWF12
import Derived.Test.YtfodlhkoafhplaaGreatWF6
import Derived.Test.YtfodlhkoafhplaaGreatWF2
import Derived.Test.YtfodlhkoafhplaaGreatWF9
import Derived.Test.YtfodlhkoafhplaaGreatWF7
import Derived.Test.YtfodlhkoafhplaaGreatWF1
import Derived.Test.YtfodlhkoafhplaaGreatWF19
import Derived.Test.YtfodlhkoafhplaaGreatWF15
import Derived.Test.YtfodlhkoafhplaaGreatWF10
import Derived.Test.YtfodlhkoafhplaaGreatWF13
namespace Go.Proofs.YtfodlhkoafhplaaGreat
open Go
set_option linter.unusedSimpArgs false
set_option linter.unusedVariables false
set_option maxRecDepth 100000
set_option maxHeartbeats 8000000
def P4 (K : Nat) (a0 : ((List Int) × (List MpT))) (a1 : Int) (a2 : MpT) (b9 : Bool) : Option (((List Int) × (List MpT)) × Int) := (if b9 = true then some ((([] : List Int), ([] : List MpT)), 5) else ((K6 K (a0.1, a0.2)).bind fun d9 => ((Zo2 K (a0.1.length : Int)).bind fun d5 => (if 0 ≤ a1 then (if a1 < 8 ∧ a1 < (a0.2.length : Int) then ((Zg7 K a2).bind fun h8 => ((Zd0 K (a0.1, a0.2) h8).bind fun h9 => ((Q3 K (Zk6 d9 a1) h9 1).bind fun k5 => (if a1 < (d5.length : Int) then ((Zg7 K a2).bind fun i0 => ((Q3 K (rd d5 a1) i0 10006).bind fun k6 => ((I8 K (a0.1, a0.2) (Zw9 d9 a1 k5) (d5.set (a1).toNat k6)).bind fun c4 => some ((c4.1.1, c4.1.2), c4.2)))) else none)))) else none) else none))))
def D9 (K : Nat) (a0 : ((List Int) × (List MpT))) (a1 : Int) (a2 : MpT) : Option (((List Int) × (List MpT)) × Int) := ((Zg9 K (a0.1, a0.2) ([a2])).bind fun f8 => ((Zc4 K (a0.1, a0.2) a1).bind fun h7 => ((Zn4 K (!h7) 2).bind fun f9 => ((Zs6 K ([f8, f9])).bind fun b3 => (if b3 = 0 then ((Q5 K a2 (fun x => P5 K x a1)).bind fun b2 => (if b2 = true then P4 K a0 a1 a2 true else (if 0 ≤ a1 then (if a1 < (a0.1.length : Int) then ((Zb4 K a0.1 a2 (rd a0.1 a1)).bind fun c6 => P4 K a0 a1 a2 (!c6)) else none) else none))) else some ((([] : List Int), ([] : List MpT)), b3))))))
theorem Zr6 {K : Nat} {a0 : ((List Int) × (List MpT))} {a1 : Int} {a2 : MpT} {r : (((List Int) × (List MpT)) × Int)} (q0 : D9 K a0 a1 a2 = some r) {H : FH} {w : World} {L : OL} {s0 : Value} {s1 : Value} {s2 : Value} (a4 : Y3 (X3 .i64) H s0 a0.1) (a7 : Y3 (X6 yT) H s1 a0.2) (a8 : Y3 yT H s2 a2) (hS : St H w L) :
 Calls Tryz.prog 65 #[vA ([s0] ++ [s1]), vI a1, vA ([s2])] w (T6 (fun v G => ∃ v0 v1, v = .tuple #[v0, v1] ∧ Zg5 H G v0 r.1 ∧ v1 = .int .i64 r.2) H L) := by
 have Z2 := Sub.refl H
 refine X0 Tryz.func65 rfl Tryz.ntmps65 rfl ?_
 unfold D9 at q0
 refine Z3 (Z1 ?_)
 refine T7 (v := vA ([s0] ++ [s1])) ([s0] ++ [s1]).toArray rfl rfl hS rfl ?_
 intro b1 w2 hS
 refine T7 (v := vI a1) ([vI a1]).toArray rfl rfl hS rfl ?_
 intro b4 w5 hS
 refine T7 (v := vA ([s2])) ([s2]).toArray rfl rfl hS rfl ?_
 intro b7 w8 hS
 refine W9 (z := vA ([vN] ++ [vN])) ([vN] ++ [vN]).toArray Zu9.zero rfl hS rfl ?_
 intro c7 w11 hS
 refine Z6 (vI 0) rfl rfl (Z0 (Z3 (Z3 ?_)))
 have hS := hS.perm Yp8
 obtain ⟨H13, g1, hS, a3⟩ := St.freezeBox hS
 have Z2 := Z2.trans g1
 have a8 := a8.mono g1
 have a4 := a4.mono g1
 have a7 := a7.mono g1
 obtain ⟨f8, x8, q0⟩ := bind_some q0
 obtain ⟨h7, x9, q0⟩ := bind_some q0
 obtain ⟨f9, y0, q0⟩ := bind_some q0
 obtain ⟨b3, m4, q0⟩ := bind_some q0
 refine V4 10 (R9 [(12, MP.eq (vA ([s2]))), (13, MP.sl (X6 yT) ([a2])), (14, MP.eq (vI f8)), (15, MP.eq (vI a1)), (16, MP.eq (Value.bool h7)), (17, MP.eq (Value.bool (!h7))), (18, MP.eq (vI f9)), (19, MP.sl (X3 .i64) ([f8, f9])), (20, MP.eq (vI b3)), (8, MP.eq (vI b3))]) [] mixed rfl rfl rfl hS (Z5 rfl ?_ (Z5 rfl ?_ (Z5 rfl ?_ (Z5 rfl ?_ (Z5 rfl ?_ (Z5 rfl ?_ (Z5 rfl ?_ (Z5 rfl ?_ (Z5 rfl ?_ (Z5 rfl ?_ V9)))))))))) ?_
 intro f17 w18 H19 X20 ac6 hS y1 ac7 hcq
 have q25 : ev f17 (.tmp 5) = vP b7 := Eq.trans (y1 5 rfl) rfl
 refine X8 U7 q25 (hS.get (mR (mR mL))) rfl rfl ?_
 exact qn (.refl _) rfl hS rfl
 intro f26 w27 H28 X29 y2 hS ac8 y3 hcq
 have a8 := a8.mono y2
 refine Zn7 (τ := (X6 yT)) J2 Zb2 rfl [vA ([s2])] [a2] rfl rfl (Ze0 (eM (y3 0 12 rfl rfl))) (Zu5 ⟨_, rfl, a8⟩) (by decide) (by decide) hS rfl ?_
 intro u35 H36 w37 y4 hS y5
 exact qn y4 rfl hS y5
 intro f40 w41 H42 X43 i1 hS y6 y7 hcq
 have a4 := a4.mono i1
 have a7 := a7.mono i1
 have a3 := i1.1 _ _ a3
 have q48 : ev f40 (.tmp 3) = vP b1 := Eq.trans (y6 3 rfl) rfl
 obtain ⟨v50, q49, y8⟩ := gvS (y7 1 13 rfl rfl)
 refine Y8 Tryz.call85 (T0 q48 q49) rfl (Yg6 x8 ⟨_, _, _, _, _, rfl, a3, ⟨_, _, rfl, ⟨_, rfl, a4⟩, ⟨_, rfl, a7⟩⟩, (Zd2 ([s0] ++ [s1]) 2)⟩ y8 hS) ?_
 rintro e51 w52 ⟨_, H51, rfl, y9, hS, rfl⟩
 refine ⟨_, rfl, ?_⟩
 exact qn y9 rfl hS rfl
 intro f53 w54 H55 X56 ac9 hS z0 ad0 hcq
 have q61 : ev f53 (.tmp 4) = vP b4 := Eq.trans (z0 4 rfl) rfl
 refine Y4 (vI a1) ty2 q61 (hS.get (mR (mR (mR mL)))) rfl rfl ?_
 exact qn (.refl _) rfl hS rfl
 intro f62 w63 H64 X65 i2 hS z1 z2 hcq
 have a4 := a4.mono i2
 have a7 := a7.mono i2
 have a3 := i2.1 _ _ a3
 have q70 : ev f62 (.tmp 3) = vP b1 := Eq.trans (z1 3 rfl) rfl
 refine Y8 Tryz.call87 (T0 q70 (eM (z2 3 15 rfl rfl))) rfl (Zx4 x9 ⟨_, _, _, _, _, rfl, a3, ⟨_, _, rfl, ⟨_, rfl, a4⟩, ⟨_, rfl, a7⟩⟩, (Zd2 ([s0] ++ [s1]) 2)⟩ hS) ?_
 rintro e72 w73 ⟨_, H72, rfl, z3, hS, rfl⟩
 refine ⟨_, rfl, ?_⟩
 exact qn z3 rfl hS rfl
 intro f74 w75 H76 X77 ad1 hS ad2 z4 hcq
 refine N7 (b := h7) (eM (z4 4 16 rfl rfl)) rfl ?_
 exact qn (.refl _) rfl hS rfl
 intro f83 w84 H85 X86 ad3 hS ad4 z5 hcq
 refine Y8 Tryz.call86 (T0 (eM (z5 5 17 rfl rfl)) rfl) rfl (Zx8 y0  hS) ?_
 rintro e92 w93 ⟨_, H92, rfl, z6, hS, rfl⟩
 refine ⟨_, rfl, ?_⟩
 exact qn z6 rfl hS rfl
 intro f94 w95 H96 X97 ad5 hS ad6 j2 hcq
 refine Zn7 (τ := (X3 .i64)) Q9 ze2 rfl [vI f8, vI f9] [f8, f9] rfl rfl (Yd5 (eM (j2 2 14 rfl rfl)) (eM (j2 6 18 rfl rfl))) (Wm5 rfl rfl) (by decide) (by decide) hS rfl ?_
 intro ad7 ad8 ad9 m5 hS m6
 exact qn m5 rfl hS m6
 intro ae0 ae1 ae2 ae3 a50 hS a51 m7 hcq
 obtain ⟨ae4, z7, m8⟩ := gvS (m7 7 19 rfl rfl)
 refine Y8 Tryz.call84 (Q8 z7) rfl (Yx0 m4 m8 hS) ?_
 rintro ae5 ae6 ⟨_, ae7, rfl, m9, hS, rfl⟩
 refine ⟨_, rfl, ?_⟩
 exact qn m9 rfl hS rfl
 intro ae8 ae9 af0 af1 a52 hS a53 n0 hcq
 refine Z6 (vI b3) (eM (n0 8 20 rfl rfl)) rfl ?_
 exact qn (.refl _) rfl hS rfl
 intro f3 z8 z9 d7 hS e4 n1 hcq
 have hS : St z9 z8 ([(c7, cA ([vN] ++ [vN]) 29)] ++ ([(b7, cA ([s2]) 47)] ++ ([(b4, cA ([vI a1]) 2)] ++ L))) := hS
 have Z2 := Z2.trans d7
 have a4 := a4.mono d7
 have a7 := a7.mono d7
 have a8 := a8.mono d7
 have a3 := d7.1 _ _ a3
 have g2 : ev f3 (.tmp 3) = vP b1 := Eq.trans (e4 3 rfl) rfl
 have g3 : ev f3 (.tmp 4) = vP b4 := Eq.trans (e4 4 rfl) rfl
 have g4 : ev f3 (.tmp 5) = vP b7 := Eq.trans (e4 5 rfl) rfl
 have g5 : ev f3 (.tmp 6) = vP c7 := Eq.trans (e4 6 rfl) rfl
 have k7 : ev f3 (.tmp 8) = vI b3 := n1 9 8 (by decide) rfl
 refine Z0 (Z3 (Z1 (Z4 (vI b3) (by exact k7) rfl ?_)))
 refine L9 (k := .i64) (a := b3) (b := 0) rfl rfl rfl (Z0 ?_)
 by_cases e5 : b3 = 0
 rw [if_pos e5] at q0
 refine Z9 (bN e5 rfl) (Y6 (Z3 ?_))
 have hS := hS.perm F3
 obtain ⟨af2, d8, hS, a5⟩ := St.freezeBox hS
 have Z2 := Z2.trans d8
 have a4 := a4.mono d8
 have a7 := a7.mono d8
 have a8 := a8.mono d8
 have a3 := d8.1 _ _ a3
 refine Z1 (Y2 V6 (by exact g4) rfl ?_)
 refine Y4 (s2) R7 rfl (hS.get (mR mL)) rfl rfl ?_
 refine Yg2 (by exact g3) rfl ?_
 obtain ⟨b2, n2, q0⟩ := bind_some q0
 refine Y8 Tryz.call144 (T0 rfl rfl) rfl (Zm9 n2 a8 ⟨145, #[vP b4], rfl, Tryz.call145, fun H2 w2 L2 v x b a8 hS2 hv hb2 => by obtain ⟨_, rfl, ⟨_, _, rfl, rfl, rfl⟩⟩ := hv; exact Zy4 hb2  (Zq0.mono a8 ⟨_, _, _, _, _, rfl, a5, rfl, (Zd2 ([vI a1]) 1)⟩) hS2⟩ hS) ?_
 rintro af3 af4 ⟨_, af5, rfl, c9, hS, rfl⟩
 refine ⟨_, rfl, ?_⟩
 have Z2 := Z2.trans c9
 have a4 := a4.mono c9
 have a7 := a7.mono c9
 have a8 := a8.mono c9
 have a3 := c9.1 _ _ a3
 have a5 := c9.1 _ _ a5
 refine Z6 (Value.bool b2) rfl rfl (Z0 (Z3 (Z3 ?_)))
 refine E9 (fun f w => ∃ (b9 : Bool) (H1 : FH), P4 K a0 a1 a2 b9 = some r ∧ Sub H H1 ∧ St H1 w ([(c7, cA ([vN] ++ [vN]) 29)] ++ ([(b7, cA ([s2]) 47)] ++ L)) ∧ Y3 (X3 .i64) H1 s0 a0.1 ∧ Y3 (X6 yT) H1 s1 a0.2 ∧ Y3 yT H1 s2 a2 ∧ H1 b1 = some (cA ([s0] ++ [s1]) 29) ∧ H1 b4 = some (cA ([vI a1]) 2) ∧ ev f (.tmp 3) = vP b1 ∧ ev f (.tmp 4) = vP b4 ∧ ev f (.tmp 5) = vP b7 ∧ ev f (.tmp 6) = vP c7 ∧ ev f (.tmp 41) = Value.bool b9) ?_ ?_
 rintro fj1 a54 ⟨b9, a55, a9, Z2, hS, a4, a7, a8, a3, a5, f4, k8, k9, f5, g0⟩
 unfold P4 at a9
 by_cases e6 : b9 = true
 rw [if_pos e6] at a9
 refine Y0 (Eq.trans (by exact g0) (congrArg Value.bool e6)) (Z3 (Z1 ?_))
 refine Q2 (vA ([vN] ++ [vN])) Yy7 rfl ?_
 refine W1 (v := vA ([vN] ++ [vN])) (vs := ([vN] ++ [vN]).toArray) (cs := ([vN] ++ [vN]).toArray) P9 (by exact f5) rfl rfl hS rfl (J6 (S2 rfl) (S2 rfl)) rfl ?_
 intro af6 hS
 refine Z6 (vI 5) rfl rfl (Z0 ?_)
 refine Y9 (vs := [vA ([vN] ++ [vN]), vI 5]) Tryz.func65 ⟨⟨_, (by exact f5), U8 P9 (hS.get mL) rfl⟩, rfl, trivial⟩ ?_
 have hz := Option.some.inj a9
 subst hz
 exact ⟨_, _, rfl, Z2, (St.dropA (St.dropA hS)), ⟨_, _, rfl, ⟨_, _, rfl, Y3.nil, RdN.nil (by first | exact List.nodup_nil | (rw [List.append_nil]; exact Zj3 _))⟩, rfl⟩⟩
 rw [if_neg e6] at a9
 refine Z9 (Eq.trans (by exact g0) (congrArg Value.bool (W2 e6))) (Y6 (Z3 ?_))
 obtain ⟨d9, n3, a9⟩ := bind_some a9
 have a56 := a4.bound
 obtain ⟨d5, n4, a9⟩ := bind_some a9
 refine Xu8 7 (fun t C => R9 [(43, MP.ownV8 a0.2.length (d9) C), (44, MP.eq (Value.pointer (some ⟨b1, 0 + 0, none⟩))), (45, MP.eq (s0)), (46, MP.eq (vI (a0.1.length : Int))), (47, MP.ownMs (d5) C), (10, MP.box (cA (U2 J4) 182))] t) [Co.st 5 10 6 0 43 (Zi8 182)] mixed rfl (Zp5 (ns := [(5, 10, 6, 0, 43)]) rfl rfl) rfl hS (Yh3 rfl ?_ (Yh3 rfl ?_ (Yh3 rfl ?_ (Yh3 rfl ?_ (Yh3 rfl ?_ (Yh3 rfl ?_ (Wg0 rfl ?_ V9))))))) ?_
 intro G1 af7 af8 a00 af9 g6 hS n5 a57 hcq
 have Z2 := Sub.refl a00
 have a4 := a4.mono g6
 have a7 := a7.mono g6
 have a3 := g6.1 _ _ a3
 refine Y8 Tryz.call146 (Q8 (evT (n5 3 rfl) f4)) rfl (Yb9 n3 ⟨_, _, _, _, _, rfl, a3, ⟨_, _, rfl, ⟨_, rfl, a4⟩, ⟨_, rfl, a7⟩⟩, (Zd2 ([s0] ++ [s1]) 2)⟩ hS) ?_
 rintro ag0 ag1 ⟨a01, ag2, CI0, rfl, n6, hS, n7⟩
 refine ⟨_, rfl, ?_⟩
 have Z2 := Z2.trans n6
 exact Z0 ⟨43, _, _, CI0, rfl, rfl, Z2, hS, ⟨_, rfl, n7⟩⟩
 intro G1 ag3 ag4 a02 ag5 a58 hS n8 a59 hcq
 have Z2 := Sub.refl a02
 refine Y2 R4 (evT (n8 3 rfl) f4) rfl ?_
 exact Z0 ⟨44, _, _, [], rfl, rfl, Z2, hS, rfl⟩
 intro G1 ag6 ag7 a03 ag8 n9 hS a60 o0 hcq
 have Z2 := Sub.refl a03
 have a3 := n9.1 _ _ a3
 refine Y4 (s0) J3 (eM (o0 1 44 rfl rfl)) (hS.froz _ _ a3) ((Zd2 ([s0] ++ [s1]) 2) 0 (show 0 < 2 by decide)) rfl ?_
 exact Z0 ⟨45, _, _, [], rfl, rfl, Z2, hS, rfl⟩
 intro G1 ag9 ah0 a04 ah1 o1 hS a61 o2 hcq
 have Z2 := Sub.refl a04
 have a4 := a4.mono o1
 refine W6 Q9 (eM (o2 2 45 rfl rfl)) a4 rfl ?_
 exact Z0 ⟨46, _, _, [], rfl, rfl, Z2, hS, rfl⟩
 intro G1 ah2 ah3 a05 ah4 a62 hS a63 o3 hcq
 have Z2 := Sub.refl a05
 refine Y8 Tryz.call147 (Q8 (eM (o3 3 46 rfl rfl))) rfl (Yn7 n4  hS) ?_
 rintro ah5 ah6 ⟨ah7, ah8, vs0, a06, rfl, o4, hS, o5, o5b⟩
 refine ⟨_, rfl, ?_⟩
 have Z2 := Z2.trans o4
 exact Z0 ⟨47, _, _, a06, rfl, rfl, Z2, hS, ⟨vs0, o5, o5b⟩⟩
 intro G1 ah9 ai0 a07 ai1 a64 hS a65 a66 hcq
 have Z2 := Sub.refl a07
 refine W9 (z := vA (U2 J4)) (U2 J4).toArray Yq5.zero rfl hS rfl ?_
 intro ai2 ai3 hS
 exact Z0 ⟨10, _, _, [], rfl, rfl, Z2, hS, ⟨_, rfl⟩⟩
 intro G1 e0 a08 l0 a09 a67 hS a68 j3 hcq
 have Z2 := Sub.refl l0
 obtain ⟨l1, f6⟩ := j3 5 10 rfl rfl
 have f6 : e0 10 = vP l1 := f6
 have hS : St l0 a08 (F6 (cA (U2 J4) 182) (e0 10) ++ (a09 ++ ([(c7, cA ([vN] ++ [vN]) 29)] ++ ([(b7, cA ([s2]) 47)] ++ L)))) := hS
 rw [f6] at hS
 have a10 : ev e0 (.tmp 10) = vP l1 := f6
 obtain ⟨i3, l2, o6⟩ : ∃ x, e0 43 = vA (U2 x) ∧ Zf3 a0.2.length x d9 (G1 43) := j3 0 43 rfl rfl
 have l2 : ev e0 (.tmp 43) = vA (U2 i3) := l2
 refine W1 (v := vA (U2 i3)) (vs := (U2 i3).toArray) (cs := (U2 J4).toArray) Zv8 a10 l2 rfl hS rfl o6.one rfl ?_
 intro ai5 hS
 have a11 : e0 43 = vA (U2 i3) := l2
 exact Z0 ⟨_, rfl, rfl, Z2, by show St _ _ (F6 (Zi8 182 (e0 43)) (e0 10) ++ _); rw [f6, a11]; exact hS, trivial⟩
 intro i4 e1 l3 i5 d0 hS e7 g7 hcq
 have hS : St i5 l3 ((i4 43 ++ (i4 47 ++ (F6 (Zi8 182 (e1 43)) (e1 10) ++ ([])))) ++ ([(c7, cA ([vN] ++ [vN]) 29)] ++ ([(b7, cA ([s2]) 47)] ++ L))) := hS
 have Z2 := Z2.trans d0
 have a4 := a4.mono d0
 have a7 := a7.mono d0
 have a8 := a8.mono d0
 have a3 := d0.1 _ _ a3
 have a5 := d0.1 _ _ a5
 have l4 := evT (e7 3 rfl) f4
 have l5 := evT (e7 4 rfl) k8
 have l6 := evT (e7 5 rfl) k9
 obtain ⟨e2, a12, b0⟩ : ∃ x, e1 43 = vA (U2 x) ∧ Zf3 a0.2.length x d9 (i4 43) := g7 0 43 (by decide) rfl
 obtain ⟨e3, l7⟩ : ∃ v, ev e1 (.tmp 47) = v := ⟨_, rfl⟩
 obtain ⟨vsO, c1, hO⟩ : ∃ vs, Y3 Zr3 i5 e3 vs ∧ Zb5 vs d5 (i4 47) := l7 ▸ (g7 4 47 (by decide) rfl)
 obtain ⟨CI, oCI⟩ : ∃ C, i4 43 = C := ⟨_, rfl⟩
 rw [oCI] at hS b0
 obtain ⟨l9, o7⟩ : ∃ C, i4 47 = C := ⟨_, rfl⟩
 rw [o7] at hS hO
 obtain ⟨f7, d6⟩ := g7 5 10 (by decide) rfl
 have d6 : e1 10 = vP f7 := d6
 rw [d6] at hS
 have d6 : ev e1 (.tmp 10) = _ := d6
 have a13 : e1 43 = vA (U2 e2) := a12
 rw [a13] at hS
 have hS : St i5 l3 (CI ++ (l9 ++ ([(f7, cA (U2 e2) 182)] ++ ([(c7, cA ([vN] ++ [vN]) 29)] ++ ([(b7, cA ([s2]) 47)] ++ L))))) := by have h := hS; simp only [List.append_assoc, List.nil_append, List.append_nil] at h; exact h
 have hS : St i5 l3 ([(f7, cA (U2 e2) 182)] ++ ([(c7, cA ([vN] ++ [vN]) 29)] ++ ([(b7, cA ([s2]) 47)] ++ (CI ++ (l9 ++ L))))) := hS.perm (Wg4 _ _ _ _ _ _)
 refine Z6 (e3) (by exact l7) rfl (Z0 (Z3 ?_))
 obtain ⟨a69, a9⟩ := gd a9
 obtain ⟨a70, a9⟩ := gd a9
 obtain ⟨h8, o8, a9⟩ := bind_some a9
 obtain ⟨h9, o9, a9⟩ := bind_some a9
 refine V4 6 (R9 [(48, MP.eq (vI a1)), (49, MP.eq (Value.pointer (some ⟨f7, 0 + (a1).toNat * 1, none⟩))), (50, MP.eq (Ya5 e2 a1)), (51, MP.eq (vA ([s2]))), (52, MP.mp .i64 (h8)), (53, MP.mp .i64 (h9))]) [] mixed rfl rfl rfl hS (Z5 rfl ?_ (Z5 rfl ?_ (Z5 rfl ?_ (Z5 rfl ?_ (Z5 rfl ?_ (Z5 rfl ?_ V9)))))) ?_
 intro ai7 ai8 ai9 aj0 p0 hS p1 a71 hcq
 have a5 := p0.1 _ _ a5
 refine Y4 (vI a1) ty2 (evT (p1 4 rfl) l5) (hS.froz _ _ a5) ((Zd2 ([vI a1]) 1) 0 (show 0 < 1 by decide)) rfl ?_
 exact qn (.refl _) rfl hS rfl
 intro aj1 aj2 aj3 aj4 a72 hS p2 p3 hcq
 refine W8 Yy0 (evT (p2 10 rfl) d6) (eM (p3 0 48 rfl rfl)) (by omega) (by omega) rfl ?_
 exact qn (.refl _) rfl hS rfl
 intro aj5 aj6 aj7 aj8 p4 hS a73 p5 hcq
 have b0 := b0.mono p4
 refine Y4 (Ya5 e2 a1) Yk4 (eM (p5 1 49 rfl rfl)) (hS.get (o := cA (U2 e2) 182) (mR mL)) (Yt7 (by omega) (by omega)) rfl ?_
 exact qn (.refl _) rfl hS rfl
 intro aj9 ak0 ak1 ak2 a74 hS p7 a75 hcq
 refine X8 U7 (evT (p7 5 rfl) l6) (hS.get (mR (mR (mR mL)))) rfl rfl ?_
 exact qn (.refl _) rfl hS rfl
 intro ak3 ak4 a14 ak5 p8 hS a76 p9 hcq
 have Z2 := Sub.refl a14
 have a8 := a8.mono p8
 refine Y8 Tryz.call90 (Q8 (eM (p9 3 51 rfl rfl))) rfl (Zn1 o8 a8 hS) ?_
 rintro ak6 ak7 ⟨ak8, ak9, al0, rfl, q1, hS, q2⟩
 refine ⟨_, rfl, ?_⟩
 have Z2 := Z2.trans q1
 obtain ⟨al1, q3, hS, q4⟩ := q2.freeze hS
 have Z2 := Z2.trans q3
 exact Z0 ⟨52, _, _, rfl, rfl, Z2, hS, q4⟩
 intro al2 al3 a15 al4 g8 hS q5 q6 hcq
 have Z2 := Sub.refl a15
 have a4 := a4.mono g8
 have a7 := a7.mono g8
 have a3 := g8.1 _ _ a3
 obtain ⟨al5, a16, q7⟩ := gvM (q6 4 52 rfl rfl)
 refine Y8 Tryz.call120 (T0 (evT (q5 3 rfl) l4) a16) rfl (Zx6 o9 ⟨_, _, _, _, _, rfl, a3, ⟨_, _, rfl, ⟨_, rfl, a4⟩, ⟨_, rfl, a7⟩⟩, (Zd2 ([s0] ++ [s1]) 2)⟩ q7 hS) ?_
 rintro al6 al7 ⟨al8, al9, am0, rfl, q8, hS, q9⟩
 refine ⟨_, rfl, ?_⟩
 have Z2 := Z2.trans q8
 obtain ⟨am1, r0, hS, r1⟩ := q9.freeze hS
 have Z2 := Z2.trans r0
 exact Z0 ⟨53, _, _, rfl, rfl, Z2, hS, r1⟩
 intro a17 a18 a19 c0 hS d1 j4 hcq
 have hS : St a19 a18 ([(f7, cA (U2 e2) 182)] ++ ([(c7, cA ([vN] ++ [vN]) 29)] ++ ([(b7, cA ([s2]) 47)] ++ (CI ++ (l9 ++ L))))) := hS
 have Z2 := Z2.trans c0
 have a4 := a4.mono c0
 have a7 := a7.mono c0
 have a8 := a8.mono c0
 have b0 := b0.mono c0
 have c1 := c1.mono c0
 have a3 := c0.1 _ _ a3
 have a5 := c0.1 _ _ a5
 have m0 : ev a17 (.tmp 11) = e3 := Eq.trans (d1 11 rfl) rfl
 have a21 : ev a17 (.tmp 50) = Ya5 e2 a1 := eM (j4 2 50 (by decide) rfl)
 obtain ⟨am2, a22, h0⟩ := gvM (j4 5 53 (by decide) rfl)
 obtain ⟨k5, r2, a9⟩ := bind_some a9
 obtain ⟨cI, RI, hpI, hown, hputI⟩ := b0.take (i := a1) (by omega) (by omega) (by omega)
 have hS := hS.perm (pmT _ _ _ _ hpI)
 refine Y8 Tryz.call132 (N8 (by exact a21) (by exact a22) rfl) rfl (Zj1 r2 hown h0 hS) ?_
 rintro am4 am5 ⟨am6, CM1, rfl, c2, hS, hown⟩
 refine ⟨_, rfl, ?_⟩
 have Z2 := Z2.trans c2
 have a4 := a4.mono c2
 have a7 := a7.mono c2
 have c1 := c1.mono c2
 have a8 := a8.mono c2
 have b0 := b0.mono c2
 have a3 := c2.1 _ _ a3
 have a5 := c2.1 _ _ a5
 have b0 := hputI _ _ hown
 have hS := hS.perm (Wa1 _ _ _ _ _ _)
 have hvl := hO.len
 refine Z0 (Z3 ?_)
 obtain ⟨a77, a9⟩ := gd a9
 obtain ⟨a23, a24, a78, am7, _, r3, h1, ⟨rfl, h2⟩, r4⟩ := c1.elem (i := a1) (by omega) (by omega)
 obtain ⟨i6, hi6⟩ : ∃ v, rd vsO a1 = v := ⟨_, rfl⟩
 rw [hi6] at r4
 obtain ⟨i0, r5, a9⟩ := bind_some a9
 refine V4 6 (R9 [(55, MP.eq (e3)), (56, MP.eq (vI a1)), (57, MP.eq (Value.pointer (some ⟨a23, a24, none⟩))), (58, MP.eq (i6)), (59, MP.eq (vA ([s2]))), (60, MP.mp .i64 (i0))]) [] mixed rfl rfl rfl hS (Z5 rfl ?_ (Z5 rfl ?_ (Z5 rfl ?_ (Z5 rfl ?_ (Z5 rfl ?_ (Z5 rfl ?_ V9)))))) ?_
 intro am8 am9 an0 an1 a79 hS r6 a80 hcq
 refine Z4 (e3) (evT (r6 11 rfl) m0) rfl ?_
 exact qn (.refl _) rfl hS rfl
 intro an2 an3 an4 an5 r7 hS r8 a81 hcq
 have a5 := r7.1 _ _ a5
 refine Y4 (vI a1) ty2 (evT (r8 4 rfl) (evT (d1 4 rfl) l5)) (hS.froz _ _ a5) ((Zd2 ([vI a1]) 1) 0 (show 0 < 1 by decide)) rfl ?_
 exact qn (.refl _) rfl hS rfl
 intro an6 an7 an8 an9 a82 hS a83 j5 hcq
 refine W3 Xe0 rfl (eM (j5 0 55 rfl rfl)) r3 (eM (j5 1 56 rfl rfl)) (by omega) (by omega) rfl ?_
 exact qn (.refl _) rfl hS rfl
 intro ao0 ao1 ao2 ao3 r9 hS a84 s3 hcq
 have h1 := r9.1 _ _ h1
 refine Y4 (i6) Yk4 (eM (s3 2 57 rfl rfl)) (hS.froz _ _ h1) (r4 0 (show 0 < 1 by decide)) rfl ?_
 exact qn (.refl _) rfl hS rfl
 intro ao4 ao5 ao6 ao7 a85 hS s4 a86 hcq
 refine X8 U7 (evT (s4 5 rfl) (evT (d1 5 rfl) l6)) (hS.get (mR (mR (mR mL)))) rfl rfl ?_
 exact qn (.refl _) rfl hS rfl
 intro ao8 ao9 a25 ap0 s5 hS a87 s6 hcq
 have Z2 := Sub.refl a25
 have a8 := a8.mono s5
 refine Y8 Tryz.call90 (Q8 (eM (s6 4 59 rfl rfl))) rfl (Zn1 r5 a8 hS) ?_
 rintro ap1 ap2 ⟨ap3, ap4, ap5, rfl, s7, hS, s8⟩
 refine ⟨_, rfl, ?_⟩
 have Z2 := Z2.trans s7
 obtain ⟨ap6, s9, hS, t0⟩ := s8.freeze hS
 have Z2 := Z2.trans s9
 exact Z0 ⟨60, _, _, rfl, rfl, Z2, hS, t0⟩
 intro ap7 a26 a27 c5 hS e9 j6 hcq
 have hS : St a27 a26 ([(f7, cA (U2 e2) 182)] ++ ([(c7, cA ([vN] ++ [vN]) 29)] ++ ([(b7, cA ([s2]) 47)] ++ ((CM1 ++ RI) ++ (l9 ++ L))))) := hS
 have Z2 := Z2.trans c5
 have a4 := a4.mono c5
 have a7 := a7.mono c5
 have c1 := c1.mono c5
 have b0 := b0.mono c5
 have a3 := c5.1 _ _ a3
 have m1 := evT (e9 6 rfl) (evT (d1 6 rfl) (evT (e7 6 rfl) f5))
 obtain ⟨ap8, a28, t1⟩ := gvM (j6 5 60 (by decide) rfl)
 obtain ⟨k6, t4, a9⟩ := bind_some a9
 obtain ⟨cO, RO, hpO, hown, hputO⟩ := hO.takeI (i := a1) (by omega) (by omega)
 rw [hi6] at hown hputO
 have hS := hS.perm (Wm2 _ _ _ _ _ hpO)
 refine Y8 Tryz.call132 (N8 (by exact (eM (j6 3 58 (by decide) rfl))) (by exact a28) rfl) rfl (Zj1 t4 hown t1 hS) ?_
 rintro ap9 aq0 ⟨aq1, CM, rfl, d2, hS, hown⟩
 refine ⟨_, rfl, ?_⟩
 have Z2 := Z2.trans d2
 have a4 := a4.mono d2
 have a7 := a7.mono d2
 have c1 := c1.mono d2
 have b0 := b0.mono d2
 have a3 := d2.1 _ _ a3
 have hO := hputO _ _ hown
 have hS := hS.perm (pmF _ _ _ _ _ _ _)
 obtain ⟨HF, sF, hS, b0⟩ := b0.freeze hS
 have Z2 := Z2.trans sF
 have a4 := a4.mono sF
 have a7 := a7.mono sF
 have c1 := c1.mono sF
 have a3 := sF.1 _ _ a3
 obtain ⟨HF2, sF2, hS, hrO⟩ := hO.freeze hS
 have Z2 := Z2.trans sF2
 have a4 := a4.mono sF2
 have a7 := a7.mono sF2
 have c1 := c1.mono sF2
 have b0 := b0.mono sF2
 have a3 := sF2.1 _ _ a3
 have c1 : Y3 (Yf6 .i64) HF2 e3 (d5.set (a1).toNat k6) := Xw5 hO.len c1 hrO
 refine Z0 (Z3 (Z1 ?_))
 refine X8 Zv8 (by exact (evT (e9 10 rfl) (evT (d1 10 rfl) d6))) (hS.get mL) rfl rfl (Z4 (e3) (by exact (evT (e9 11 rfl) m0)) rfl ?_)
 obtain ⟨c4, t5, a9⟩ := bind_some a9
 have j7 := Z2
 refine Y8 Tryz.call148 (N8 (by exact (evT (e9 3 rfl) (evT (d1 3 rfl) l4))) rfl rfl) rfl (Zy3 t5 ⟨_, _, _, _, _, rfl, a3, ⟨_, _, rfl, ⟨_, rfl, a4⟩, ⟨_, rfl, a7⟩⟩, (Zd2 ([s0] ++ [s1]) 2)⟩ b0 c1 hS) ?_
 rintro aq2 aq3 ⟨_, i7, rfl, t6, hS, ⟨_, _, rfl, ⟨b5, b6, rfl, c3, c8⟩, rfl⟩⟩
 refine ⟨_, rfl, ?_⟩
 have Z2 := Z2.trans t6
 have t7 : RdF (X3 .i64) H i7 b5 c4.1.1 := Y3.mono (Zg0 j7) c3
 have c3 := Y3.old c3
 have j8 : RdN (X6 yT) H i7 b6 c4.1.2 (Ze2 [b5] ++ ([] : List Nat)) := RdN.anti c8 j7
 have t8 : RdF (X6 yT) H i7 b6 c4.1.2 := RdN.old j8
 have c8 := Y3.old t8
 refine U3 (vA ([b5] ++ [b6])) rfl rfl rfl (U3 (vI c4.2) rfl rfl rfl ?_)
 have hS := hS.perm U4
 refine W1 (v := vA ([b5] ++ [b6])) (vs := ([b5] ++ [b6]).toArray) (cs := ([vN] ++ [vN]).toArray) P9 (by exact m1) rfl rfl hS rfl (J6 (S2 c3.isOne) (S2 c8.isOne)) rfl ?_
 intro aq4 hS
 have hS := hS.perm U4.symm
 refine Z6 (vI c4.2) rfl rfl (Z0 ?_)
 refine Y9 (vs := [vA ([b5] ++ [b6]), vI c4.2]) Tryz.func65 ⟨⟨_, (by exact m1), U8 P9 (hS.get (mR mL)) rfl⟩, rfl, trivial⟩ ?_
 have hz := Option.some.inj a9
 subst hz
 exact ⟨_, _, rfl, Z2, (St.dropA (St.dropA (St.dropA hS))), ⟨_, _, rfl, ⟨_, _, rfl, t7, j8⟩, rfl⟩⟩
 intro x7
 by_cases a6 : b2 = true
 rw [if_pos a6] at q0
 refine V4 13 (R9 [(29, MP.eq (Value.bool b2)), (30, MP.eq (Value.bool b2)), (31, MP.eq (undef)), (32, MP.eq (undef)), (33, MP.eq (undef)), (34, MP.eq (undef)), (35, MP.eq (undef)), (36, MP.eq (undef)), (37, MP.eq (undef)), (38, MP.eq (undef)), (39, MP.eq (undef)), (40, MP.eq (undef)), (41, MP.eq (Value.bool true))]) [] mixed rfl rfl rfl hS (Z5 rfl ?_ (Z5 rfl ?_ (Z5 rfl ?_ (Z5 rfl ?_ (Z5 rfl ?_ (Z5 rfl ?_ (Z5 rfl ?_ (Z5 rfl ?_ (Z5 rfl ?_ (Z5 rfl ?_ (Z5 rfl ?_ (Z5 rfl ?_ (Z5 rfl ?_ V9))))))))))))) ?_
 intro i8 a29 a30 a31 t9 hS h3 u0 hcq
 have i9 : ev i8 (.tmp 9) = Value.bool b2 := Eq.trans (h3 9 rfl) rfl
 refine Z4 (Value.bool b2) i9 rfl ?_
 exact qn (.refl _) rfl hS rfl
 intro j0 a32 a33 a34 u1 hS u2 h4 hcq
 have j1 : ev j0 (.tmp 29) = Value.bool b2 := h4 0 29 rfl rfl
 refine Z4 (Value.bool b2) j1 rfl ?_
 exact qn (.refl _) rfl hS rfl
 intro aq5 aq6 aq7 aq8 a88 hS a89 u3 hcq
 refine Z8 rfl rfl (Eq.trans (eM (u3 1 30 rfl rfl)) (congrArg Value.bool a6)) rfl rfl rfl ?_
 exact qn (.refl _) rfl hS rfl
 intro aq9 ar0 ar1 ar2 a90 hS a91 u4 hcq
 refine Z8 rfl rfl (Eq.trans (eM (u4 1 30 rfl rfl)) (congrArg Value.bool a6)) rfl rfl rfl ?_
 exact qn (.refl _) rfl hS rfl
 intro ar3 ar4 ar5 ar6 a92 hS a93 u5 hcq
 refine Z8 rfl rfl (Eq.trans (eM (u5 1 30 rfl rfl)) (congrArg Value.bool a6)) rfl rfl rfl ?_
 exact qn (.refl _) rfl hS rfl
 intro ar7 ar8 ar9 as0 a94 hS a95 u6 hcq
 refine Z8 rfl rfl (Eq.trans (eM (u6 1 30 rfl rfl)) (congrArg Value.bool a6)) rfl rfl rfl ?_
 exact qn (.refl _) rfl hS rfl
 intro as1 as2 as3 as4 a96 hS a97 u7 hcq
 refine Z8 rfl rfl (Eq.trans (eM (u7 1 30 rfl rfl)) (congrArg Value.bool a6)) rfl rfl rfl ?_
 exact qn (.refl _) rfl hS rfl
 intro as5 as6 as7 as8 a98 hS a99 u8 hcq
 refine Z8 rfl rfl (Eq.trans (eM (u8 1 30 rfl rfl)) (congrArg Value.bool a6)) rfl rfl rfl ?_
 exact qn (.refl _) rfl hS rfl
 intro as9 at0 at1 at2 aa0 hS aa1 u9 hcq
 refine Z8 rfl rfl (Eq.trans (eM (u9 1 30 rfl rfl)) (congrArg Value.bool a6)) rfl rfl rfl ?_
 exact qn (.refl _) rfl hS rfl
 intro at3 at4 at5 at6 aa2 hS aa3 v2 hcq
 refine Z8 rfl rfl (Eq.trans (eM (v2 1 30 rfl rfl)) (congrArg Value.bool a6)) rfl rfl rfl ?_
 exact qn (.refl _) rfl hS rfl
 intro at7 at8 at9 au0 aa4 hS aa5 v3 hcq
 refine Z8 rfl rfl (Eq.trans (eM (v3 1 30 rfl rfl)) (congrArg Value.bool a6)) rfl rfl rfl ?_
 exact qn (.refl _) rfl hS rfl
 intro au1 au2 au3 au4 aa6 hS aa7 v4 hcq
 refine Z8 rfl rfl (Eq.trans (eM (v4 1 30 rfl rfl)) (congrArg Value.bool a6)) rfl rfl rfl ?_
 exact qn (.refl _) rfl hS rfl
 intro au5 au6 au7 au8 aa8 hS aa9 v5 hcq
 refine V1 (t := true) (Value.bool true) (Eq.trans (eM (v5 1 30 rfl rfl)) (congrArg Value.bool a6)) ((if_pos rfl).trans rfl) rfl ?_
 exact qn (.refl _) rfl hS rfl
 intro au9 a35 m2 d3 hS f0 v6 hcq
 have hS : St m2 a35 ([(c7, cA ([vN] ++ [vN]) 29)] ++ ([(b7, cA ([s2]) 47)] ++ L)) := hS
 have Z2 := Z2.trans d3
 have a4 := a4.mono d3
 have a7 := a7.mono d3
 have a8 := a8.mono d3
 have a3 := d3.1 _ _ a3
 have a5 := d3.1 _ _ a5
 refine Z0 ?_
 exact x7 _ _ ⟨true, m2, q0, Z2, hS, a4, a7, a8, a3, a5, (evT (f0 3 rfl) g2), (evT (f0 4 rfl) g3), (evT (f0 5 rfl) g4), (evT (f0 6 rfl) g5), (eM (v6 12 41 (by decide) rfl))⟩
 rw [if_neg a6] at q0
 obtain ⟨ab0, q0⟩ := gd q0
 obtain ⟨ab1, q0⟩ := gd q0
 obtain ⟨a36, a37, ab2, av0, _, v7, h5, rfl, v8⟩ := a4.elem (i := a1) (by omega) (by omega)
 obtain ⟨c6, v9, q0⟩ := bind_some q0
 refine V4 13 (R9 [(29, MP.eq (Value.bool b2)), (30, MP.eq (Value.bool b2)), (31, MP.eq (Value.pointer (some ⟨b1, 0 + 0, none⟩))), (32, MP.eq (s0)), (33, MP.eq (vA ([s2]))), (34, MP.eq (Value.pointer (some ⟨b1, 0 + 0, none⟩))), (35, MP.eq (s0)), (36, MP.eq (vI a1)), (37, MP.eq (Value.pointer (some ⟨a36, a37, none⟩))), (38, MP.eq (vI (rd a0.1 a1))), (39, MP.eq (Value.bool c6)), (40, MP.eq (Value.bool (!c6))), (41, MP.eq (Value.bool (!c6)))]) [] mixed rfl rfl rfl hS (Z5 rfl ?_ (Z5 rfl ?_ (Z5 rfl ?_ (Z5 rfl ?_ (Z5 rfl ?_ (Z5 rfl ?_ (Z5 rfl ?_ (Z5 rfl ?_ (Z5 rfl ?_ (Z5 rfl ?_ (Z5 rfl ?_ (Z5 rfl ?_ (Z5 rfl ?_ V9))))))))))))) ?_
 intro i8 a29 a30 a31 t9 hS h3 u0 hcq
 have i9 : ev i8 (.tmp 9) = Value.bool b2 := Eq.trans (h3 9 rfl) rfl
 refine Z4 (Value.bool b2) i9 rfl ?_
 exact qn (.refl _) rfl hS rfl
 intro j0 a32 a33 a34 u1 hS u2 h4 hcq
 have j1 : ev j0 (.tmp 29) = Value.bool b2 := h4 0 29 rfl rfl
 refine Z4 (Value.bool b2) j1 rfl ?_
 exact qn (.refl _) rfl hS rfl
 intro av1 av2 av3 av4 ab3 hS w0 w1 hcq
 refine Y1 rfl rfl (Eq.trans (eM (w1 1 30 rfl rfl)) (congrArg Value.bool (W2 a6))) (Y2 R4 (evT (w0 3 rfl) g2) rfl ?_)
 exact qn (.refl _) rfl hS rfl
 intro av5 av6 av7 av8 w3 hS ab4 j9 hcq
 have a3 := w3.1 _ _ a3
 refine Y1 rfl rfl (Eq.trans (eM (j9 1 30 rfl rfl)) (congrArg Value.bool (W2 a6))) ?_
 refine Y4 (s0) J3 (eM (j9 2 31 rfl rfl)) (hS.froz _ _ a3) ((Zd2 ([s0] ++ [s1]) 2) 0 (show 0 < 2 by decide)) rfl ?_
 exact qn (.refl _) rfl hS rfl
 intro av9 aw0 aw1 aw2 ab5 hS w4 w6 hcq
 refine Y1 rfl rfl (Eq.trans (eM (w6 1 30 rfl rfl)) (congrArg Value.bool (W2 a6))) ?_
 refine X8 U7 (evT (w4 5 rfl) g4) (hS.get (mR (mR mL))) rfl rfl ?_
 exact qn (.refl _) rfl hS rfl
 intro aw3 aw4 aw5 aw6 ab6 hS w7 w9 hcq
 refine Y1 rfl rfl (Eq.trans (eM (w9 1 30 rfl rfl)) (congrArg Value.bool (W2 a6))) (Y2 R4 (evT (w7 3 rfl) g2) rfl ?_)
 exact qn (.refl _) rfl hS rfl
 intro aw7 aw8 aw9 ax0 x0 hS ab7 k0 hcq
 have a3 := x0.1 _ _ a3
 refine Y1 rfl rfl (Eq.trans (eM (k0 1 30 rfl rfl)) (congrArg Value.bool (W2 a6))) ?_
 refine Y4 (s0) J3 (eM (k0 5 34 rfl rfl)) (hS.froz _ _ a3) ((Zd2 ([s0] ++ [s1]) 2) 0 (show 0 < 2 by decide)) rfl ?_
 exact qn (.refl _) rfl hS rfl
 intro ax1 ax2 ax3 ax4 x1 hS x2 x3 hcq
 have a5 := x1.1 _ _ a5
 refine Y1 rfl rfl (Eq.trans (eM (x3 1 30 rfl rfl)) (congrArg Value.bool (W2 a6))) ?_
 refine Y4 (vI a1) ty2 (evT (x2 4 rfl) g3) (hS.froz _ _ a5) ((Zd2 ([vI a1]) 1) 0 (show 0 < 1 by decide)) rfl ?_
 exact qn (.refl _) rfl hS rfl
 intro ax5 ax6 ax7 ax8 ab8 hS ab9 h6 hcq
 refine Y1 rfl rfl (Eq.trans (eM (h6 1 30 rfl rfl)) (congrArg Value.bool (W2 a6))) ?_
 refine W3 Q9 rfl (eM (h6 6 35 rfl rfl)) v7 (eM (h6 7 36 rfl rfl)) (by omega) (by omega) rfl ?_
 exact qn (.refl _) rfl hS rfl
 intro ax9 ay0 ay1 ay2 x4 hS ac0 k1 hcq
 have h5 := x4.1 _ _ h5
 refine Y1 rfl rfl (Eq.trans (eM (k1 1 30 rfl rfl)) (congrArg Value.bool (W2 a6))) ?_
 refine Y4 (vI (rd a0.1 a1)) ty2 (eM (k1 8 37 rfl rfl)) (hS.froz _ _ h5) (v8 0 (show 0 < 1 by decide)) rfl ?_
 exact qn (.refl _) rfl hS rfl
 intro ay3 ay4 ay5 ay6 k2 hS ac1 f1 hcq
 have a4 := a4.mono k2
 have a8 := a8.mono k2
 refine Y1 rfl rfl (Eq.trans (eM (f1 1 30 rfl rfl)) (congrArg Value.bool (W2 a6))) ?_
 refine Y8 Tryz.call126 (N8 (eM (f1 3 32 rfl rfl)) (eM (f1 4 33 rfl rfl)) (eM (f1 9 38 rfl rfl))) rfl (Zx1 v9 a4 a8 hS) ?_
 rintro ay7 ay8 ⟨_, ay9, rfl, x5, hS, rfl⟩
 refine ⟨_, rfl, ?_⟩
 exact qn x5 rfl hS rfl
 intro az0 az1 az2 az3 ac2 hS ac3 k3 hcq
 refine Y1 rfl rfl (Eq.trans (eM (k3 1 30 rfl rfl)) (congrArg Value.bool (W2 a6))) (N7 (b := c6) (eM (k3 10 39 rfl rfl)) rfl ?_)
 exact qn (.refl _) rfl hS rfl
 intro az4 az5 az6 az7 ac4 hS ac5 k4 hcq
 refine V1 (t := false) (Value.bool (!c6)) (Eq.trans (eM (k4 1 30 rfl rfl)) (congrArg Value.bool (W2 a6))) ((if_neg Bool.false_ne_true).trans (eM (k4 11 40 rfl rfl))) rfl ?_
 exact qn (.refl _) rfl hS rfl
 intro az8 a38 m3 d4 hS f2 x6 hcq
 have hS : St m3 a38 ([(c7, cA ([vN] ++ [vN]) 29)] ++ ([(b7, cA ([s2]) 47)] ++ L)) := hS
 have Z2 := Z2.trans d4
 have a4 := a4.mono d4
 have a7 := a7.mono d4
 have a8 := a8.mono d4
 have a3 := d4.1 _ _ a3
 have a5 := d4.1 _ _ a5
 refine Z0 ?_
 exact x7 _ _ ⟨(!c6), m3, q0, Z2, hS, a4, a7, a8, a3, a5, (evT (f2 3 rfl) g2), (evT (f2 4 rfl) g3), (evT (f2 5 rfl) g4), (evT (f2 6 rfl) g5), (eM (x6 12 41 (by decide) rfl))⟩
 rw [if_neg e5] at q0
 refine Y0 (bO e5 rfl) (Z3 (Z1 ?_))
 refine Q2 (vA ([vN] ++ [vN])) Yy7 rfl (Z4 (vI b3) (by exact k7) rfl ?_)
 refine W1 (v := vA ([vN] ++ [vN])) (vs := ([vN] ++ [vN]).toArray) (cs := ([vN] ++ [vN]).toArray) P9 (by exact g5) rfl rfl hS rfl (J6 (S2 rfl) (S2 rfl)) rfl ?_
 intro az9 hS
 refine Z6 (vI b3) rfl rfl (Z0 ?_)
 refine Y9 (vs := [vA ([vN] ++ [vN]), vI b3]) Tryz.func65 ⟨⟨_, (by exact g5), U8 P9 (hS.get mL) rfl⟩, rfl, trivial⟩ ?_
 have hz := Option.some.inj q0
 subst hz
 exact ⟨_, _, rfl, Z2, (St.dropA (St.dropA (St.dropA hS))), ⟨_, _, rfl, ⟨_, _, rfl, Y3.nil, RdN.nil (by first | exact List.nodup_nil | (rw [List.append_nil]; exact Zj3 _))⟩, rfl⟩⟩
end Go.Proofs.YtfodlhkoafhplaaGreat
