/- The walk of the law. -/
import Derived.Test.YtabofnehiclkiaaGreatZF30
namespace Go.Proofs.YtabofnehiclkiaaGreat
open Go Go.Proofs.Tryz
set_option linter.unusedSimpArgs false
set_option linter.unusedVariables false
set_option maxRecDepth 100000
set_option maxHeartbeats 8000000
variable {K : Nat} {H : FH} {w : World} {L : OL} {s0 s1 s2 s3 s4 s5 s6 : Value}
def F7 (K : Nat) (a6 : ((List MpT) × Int)) (c8 : Bool) : Option Bool := (if c8 = true then some false else ((Zh2 K (Zz1 1 a6.1) 1).bind fun d4 => (if d4 < 0 then some false else (if d4 = (1 + M6 a6.1) then some true else some false))))
def L5 (K : Nat) (a0 : ((List Int) × (List MpT))) (a1 : Int) (a6 : ((List MpT) × Int)) (r9 : ((List MpT) × Int)) (c9 : Bool) : Option Bool := (if c9 = true then some false else (if M6 a6.1 ≤ 1000000000000 ∧ 0 ≤ (1 : Int) ∧ (1 : Int) ≤ 100000000000000 then ((Zh2 K (Zz1 1 a6.1) 1).bind fun e5 => (if e5 < 0 then some false else (if e5 = (1 + M6 a6.1) then ((Za4 K (a0.1, a0.2)).bind fun m8 => ((Ze1 K (m8.1, m8.2) a1).bind fun d9 => ((Zd7 K d9.1 r9.1).bind fun f5 => (if f5 = true then F7 K a6 (!decide (d9.2 = r9.2)) else F7 K a6 true)))) else some false))) else none))
def F8 (K : Nat) (a0 : ((List Int) × (List MpT))) (a1 : Int) (b4 : ((List Int) × (List MpT))) (a6 : ((List MpT) × Int)) (r9 : ((List MpT) × Int)) (d0 : Bool) : Option Bool := (if d0 = true then some false else ((Za4 K (a0.1, a0.2)).bind fun h6 => ((Zl7 K (b4.1, b4.2) (h6.1, h6.2)).bind fun f0 => (if f0 = true then (if Yf1 b4 ≤ 1000000000000 ∧ 0 ≤ (1 : Int) ∧ (1 : Int) ≤ 1000000 then (if (1 + Yf1 b4) < 0 then L5 K a0 a1 a6 r9 true else ((Zd7 K a6.1 r9.1).bind fun e7 => (if e7 = true then L5 K a0 a1 a6 r9 (!decide (a6.2 = r9.2)) else L5 K a0 a1 a6 r9 true))) else none) else some false))))
def Ze4 (K : Nat) (a0 : ((List Int) × (List MpT))) (a1 : Int) : Option Bool := ((Zn3 K (a0.1, a0.2) 1048576).bind fun r4 => (if r4 < 0 then some true else ((Za4 K (a0.1, a0.2)).bind fun r7 => ((Zh9 K (r7.1, r7.2) a1).bind fun r9 => ((Za4 K (a0.1, a0.2)).bind fun b4 => ((Ze1 K (b4.1, b4.2) a1).bind fun a6 => ((Zd7 K a6.1 r9.1).bind fun f6 => (if f6 = true then F8 K a0 a1 b4 a6 r9 (!decide (a6.2 = r9.2)) else F8 K a0 a1 b4 a6 r9 true))))))))
theorem Ye8 {a0 : ((List Int) × (List MpT))} {a1 : Int} {r : Bool} (q0 : Ze4 K a0 a1 = some r) (a4 : Y3 (Y5 .i64) H s0 a0.1) (a5 : Y3 (X2 yT) H s1 a0.2) (hM : ∀ b, H.memo b = none) (hL : ∀ b, b < H.lim → H b ≠ none) (hS : St H w L) :
 Calls prog 6 #[vA ([s0] ++ [s1]), vI a1] w (U7 (fun v G => R.bool.p G v r) H L) := by
 have Z4 := Sub.refl H
 refine X0 func6 rfl ntmps6 rfl ?_
 unfold Ze4 at q0
 refine Z1 (Z0 ?_)
 refine T7 (v := vA ([s0] ++ [s1])) ([s0] ++ [s1]).toArray rfl rfl hS rfl ?_
 intro b1 _ hS
 refine Z5 (vB false) rfl rfl (Z2 (Z1 (Z0 (Z5 (vI 1048576) rfl rfl (Z2 (Z1 (Z0 ?_)))))))
 refine W3 Xq8 rfl (hS.get mL) rfl rfl (Z3 (vI 1048576) rfl rfl ?_)
 obtain ⟨r4, p1, q0⟩ := bind_some q0
 refine X3 call15 (V2 rfl rfl) rfl (Yt4 p1 a4 a5 hS) ?_
 rintro _ _ _ i9 hS rfl
 have Z4 := Z4.trans i9
 have a4 := a4.mono i9
 have a5 := a5.mono i9
 refine Z5 (vI r4) rfl rfl (Z2 (Z1 (Z1 (Z0 (Z3 (vI r4) rfl rfl ?_)))))
 refine W8 (k := .i64) (a := r4) (b := 0) rfl rfl rfl (Z2 ?_)
 obtain ⟨j0, q0⟩ | ⟨j0, q0⟩ := ic q0
 refine Z8 (bT j0 rfl) (Z1 (Z0 (Z5 (vB true) rfl rfl (Z2 ?_))))
 refine Y9 (vs := [vB true]) func6 ⟨rfl, trivial⟩ ?_
 obtain rfl := oi q0
 exact ⟨_, _, rfl, Z4, (St.dropA hS), rfl⟩
 refine Z7 (bF j0 rfl) (Y6 (Z1 (Z0 ?_)))
 refine W3 Xq8 rfl (hS.get mL) rfl rfl ?_
 have q3 := Z4
 obtain ⟨_, p2, q0⟩ := bind_some q0
 refine U9 call17 (R3 rfl) rfl (Zn4 p2 a4 a5 hS) ?_
 rintro _ _ ⟨_, H7, rfl, j1, hS, p3⟩
 obtain ⟨_, _, rfl, j2, j3⟩ := id p3.old
 have j2 := Y3.old j2
 have j3 := Y3.old j3
 refine ⟨_, rfl, ?_⟩
 have Z4 := Z4.trans j1
 have a4 := a4.mono j1
 have a5 := a5.mono j1
 have q6 := Sub.refl H7
 refine Z3 (vI a1) rfl rfl ?_
 obtain ⟨r9, p4, q0⟩ := bind_some q0
 refine X3 call35 (V2 rfl rfl) rfl (Yo1 p4 j2 j3 hS) ?_
 rintro _ H9 _ j4 hS ⟨c6, _, rfl, a3, rfl⟩
 have Z4 := Z4.trans j4
 have a4 := a4.mono j4
 have a5 := a5.mono j4
 refine Z3 (Value.tuple #[c6, vI r9.2]) rfl rfl (V3 (c6) rfl rfl rfl (V3 (vI r9.2) rfl rfl rfl (Z5 (c6) rfl rfl (Z5 (vI r9.2) rfl rfl (Z2 (Z1 (Z0 ?_)))))))
 refine W3 Xq8 rfl (hS.get mL) rfl rfl ?_
 have h7 := Y3.noMI a4
 have h8 := Y3.noMF a5
 have f1 := Y3.noMF a3
 have sB := Wy7 H9
 have g2 := Z4
 have n3 := sB
 obtain ⟨b4, n4, q0⟩ := bind_some q0
 refine U9 call17 (R3 rfl) rfl (Zn4 n4 a4 a5 hS) ?_
 rintro _ _ ⟨_, g3, rfl, e8, hS, j5⟩
 obtain ⟨d1, d2, rfl, b5, b6⟩ := id j5.old
 have b5 := Y3.old b5
 have b6 := Y3.old b6
 refine ⟨_, rfl, ?_⟩
 have Z4 := Z4.trans e8
 have a3 := a3.mono e8
 have a4 := a4.mono e8
 have a5 := a5.mono e8
 have sB := sB.trans e8
 have c4 := Sub.refl g3
 refine U4 (z := vA ([vN] ++ [vN])) ([vN] ++ [vN]).toArray Wu4.zero rfl hS rfl ?_
 intro g4 _ hS
 refine W4 (v := vA ([d1] ++ [d2])) (vs := ([d1] ++ [d2]).toArray) (cs := ([vN] ++ [vN]).toArray) Ya1 rfl rfl rfl hS rfl (Yf3 (Zb5 b5.isOne) (Zb5 b6.isOne)) rfl ?_
 intro _ hS
 refine Z2 (Z1 (Z0 ?_))
 refine W3 Ya1 rfl (hS.get mL) rfl rfl (Z3 (vI a1) rfl rfl ?_)
 have g5 := Z4
 have n5 := sB
 have i6 := c4
 obtain ⟨a6, n6, q0⟩ := bind_some q0
 refine U9 call36 (V2 rfl rfl) rfl (Ya9 n6 b5 b6 hS) ?_
 rintro _ _ ⟨_, j6, rfl, d5, hS, b7, _, rfl, h9, rfl⟩
 have i0 := RdN.old h9
 refine ⟨_, rfl, ?_⟩
 have Z4 := Z4.trans d5
 have a3 := a3.mono d5
 have b5 := b5.mono d5
 have b6 := b6.mono d5
 have a4 := a4.mono d5
 have a5 := a5.mono d5
 have sB := sB.trans d5
 have c4 := c4.trans d5
 have a8 := Yi2 j6 g3
 have b3 := Y3.mono a8 i0
 refine Z3 (Value.tuple #[b7, vI a6.2]) rfl rfl (V3 (b7) rfl rfl rfl (V3 (vI a6.2) rfl rfl rfl (Z5 (b7) rfl rfl (Z5 (vI a6.2) rfl rfl (Z2 (Z1 (Z1 ?_)))))))
 refine N4 (fun f w => ∃ (d0 : Bool) (H1 : FH), F8 K a0 a1 b4 a6 r9 d0 = some r ∧ Sub H H1 ∧ St H1 w ([(g4, cA ([d1] ++ [d2]) 31)] ++ ([(b1, cA ([s0] ++ [s1]) 25)] ++ L)) ∧ Y3 (Y5 .i64) H1 d1 b4.1 ∧ Y3 (X2 yT) H1 b7 a6.1 ∧ Y3 (X2 yT) H1 d2 b4.2 ∧ Y3 (Y5 .i64) H1 s0 a0.1 ∧ Y3 (X2 yT) H1 s1 a0.2 ∧ Y3 (X2 yT) H1 c6 r9.1 ∧ tv f 1 = vI a1 ∧ tv f 2 = vP b1 ∧ tv f 6 = c6 ∧ tv f 7 = vI r9.2 ∧ tv f 8 = vP g4 ∧ tv f 9 = b7 ∧ tv f 10 = vI a6.2 ∧ tv f 44 = vB d0 ∧ Sub H9.noM H1 ∧ Sub g3 H1 ∧ Sub (j6.new g3) H1) ?_ ?_
 rintro _ _ ⟨d0, _, b0, Z4, hS, b5, b3, b6, a4, a5, a3, j7, g6, j8, j9, g7, k0, i7, f2, sB, c4, a8⟩
 unfold F8 at b0
 obtain ⟨g8, b0⟩ | ⟨g8, b0⟩ := ic b0
 refine Z8 (Eq.trans (by exact f2) (congrArg vB g8)) (Z1 (Z0 (Z5 (vB false) rfl rfl (Z2 ?_))))
 refine Y9 (vs := [vB false]) func6 ⟨rfl, trivial⟩ ?_
 obtain rfl := oi b0
 exact ⟨_, _, rfl, Z4, (St.dropA (St.dropA hS)), rfl⟩
 refine Z7 (Eq.trans (by exact f2) (congrArg vB (W1 g8))) (Y6 (Z1 (Z1 ?_)))
 obtain ⟨h6, n7, b0⟩ := bind_some b0
 obtain ⟨f0, n8, b0⟩ := bind_some b0
 refine W7 5 (S9 [mE 45 (vA ([d1] ++ [d2])), mE 46 (vA ([s0] ++ [s1])), (47, MP.rep (R.agg (Yh5 (X2 (Y5 .i64)) (X2 (X2 yT)))) (h6)), mE 48 (vB f0), mE 49 (vB (!f0))]) [] mixed rfl rfl rfl hS (J9 ?_ ?_ ?_ ?_ (E8 ?_ V1)) ?_
 exact X4 fun S B => W3 Ya1 (evT (B 8 rfl) g7) (S.get (mR mL)) rfl rfl (qz S)
 exact X4 fun S B => W3 Xq8 (evT (B 2 rfl) g6) (S.get (mR (mR mL))) rfl rfl (qz S)
 intro _ _ _ _ k1 hS _ n9 hcq
 have a4 := a4.mono k1
 have a5 := a5.mono k1
 refine X3 call17 (R3 (eM (n9 1 46 rfl rfl))) rfl (Zn4 n7 a4 a5 hS) ?_
 rintro _ _ _ o0 hS g9
 have g9 := Yd7.rep g9
 exact qn o0 rfl hS g9
 intro _ _ _ _ k2 hS _ k3 hcq
 have b5 := b5.mono k2
 have b6 := b6.mono k2
 obtain ⟨_, p5, ⟨_, rfl, ⟨_, _, rfl, ⟨_, rfl, k4⟩, ⟨_, rfl, k5⟩⟩⟩⟩ := gvR (k3 2 47 rfl rfl)
 refine X3 call20 (V2 (eM (k3 0 45 rfl rfl)) p5) rfl (Yt1 n8 b5 b6 k4 k5 hS) ?_
 rintro _ _ _ o1 hS rfl
 exact qn o1 rfl hS rfl
 exact Y7 fun S V => N8 (b := f0) (eM (V 3 48 rfl rfl)) rfl (qz S)
 intro p6 p7 p8 d6 hS e0 o2 hcq
 have hS : St p8 p7 ([(g4, cA ([d1] ++ [d2]) 31)] ++ ([(b1, cA ([s0] ++ [s1]) 25)] ++ L)) := hS
 have Z4 := Z4.trans d6
 have a3 := a3.mono d6
 have b3 := b3.mono d6
 have a4 := a4.mono d6
 have a5 := a5.mono d6
 have sB := sB.trans d6
 have c4 := c4.trans d6
 have a8 := a8.trans d6
 have k6 := evT (e0 1 rfl) j7
 have k7 := evT (e0 2 rfl) g6
 have i1 := evT (e0 6 rfl) j8
 have i2 := evT (e0 7 rfl) j9
 have i3 := evT (e0 9 rfl) k0
 have m9 : tv p6 49 = vB (!f0) := o2 4 49 (by decide) rfl
 refine Z2 ?_
 obtain ⟨h0, b0⟩ | ⟨h0, b0⟩ := ic b0
 refine Z7 (Eq.trans (by exact m9) (congrArg (fun b => vB (!b)) h0)) (Y6 (Z1 (Z0 (Z5 (vI 1) rfl rfl (Z2 (Z1 (Z0 ?_)))))))
 refine W3 Ya1 (by exact (evT (e0 8 rfl) g7)) (hS.get mL) rfl rfl (Z3 (vI 1) rfl rfl ?_)
 obtain ⟨o3, b0⟩ := gd b0
 refine U9 call21 (V2 rfl rfl) rfl (Wf8 j5 c4 o3 (Wk5 hL g2 Z4) hS) ?_
 rintro _ _ ⟨p9, rfl, hS, d7, d8, f7⟩
 refine ⟨_, rfl, ?_⟩
 have Z4 := f7 H Z4 hM (fun b h => .inl (Xg4 g2 b h))
 have a8 := f7 _ a8 (fun _ => rfl) (Wo4 i6)
 have b3 := Y3.mono a8 i0
 have sB := f7 _ sB (fun _ => rfl) (fun b h => .inl (Xg4 n3 b h))
 have a4 := h7.mono sB
 have a5 := h8.mono sB
 have a3 := f1.mono sB
 refine Z5 (vI (1 + Yf1 b4)) rfl rfl (Z2 (Z1 (Z1 ?_)))
 refine N4 (fun f w => ∃ (c9 : Bool) (H1 : FH), L5 K a0 a1 a6 r9 c9 = some r ∧ Sub H H1 ∧ St H1 w ([(g4, cA ([d1] ++ [d2]) 31)] ++ ([(b1, cA ([s0] ++ [s1]) 25)] ++ L)) ∧ Y3 (X2 yT) H1 b7 a6.1 ∧ Y3 (Y5 .i64) H1 d1 ((mkA b4 1).1) ∧ Y3 (X2 yT) H1 d2 ((mkA b4 1).2) ∧ Y3 (Y5 .i64) H1 s0 a0.1 ∧ Y3 (X2 yT) H1 s1 a0.2 ∧ Y3 (X2 yT) H1 c6 r9.1 ∧ tv f 1 = vI a1 ∧ tv f 2 = vP b1 ∧ tv f 6 = c6 ∧ tv f 7 = vI r9.2 ∧ tv f 9 = b7 ∧ tv f 65 = vB c9 ∧ Sub H9.noM H1 ∧ Sub (j6.new g3) H1) ?_ ?_
 rintro _ _ ⟨c9, _, a7, Z4, hS, b3, d7, d8, a4, a5, a3, k8, k9, l0, l1, e2, f3, sB, a8⟩
 unfold L5 at a7
 obtain ⟨h1, a7⟩ | ⟨h1, a7⟩ := ic a7
 refine Z8 (Eq.trans (by exact f3) (congrArg vB h1)) (Z1 (Z0 (Z5 (vB false) rfl rfl (Z2 ?_))))
 refine Y9 (vs := [vB false]) func6 ⟨rfl, trivial⟩ ?_
 obtain rfl := oi a7
 exact ⟨_, _, rfl, Z4, (St.dropA (St.dropA hS)), rfl⟩
 refine Z7 (Eq.trans (by exact f3) (congrArg vB (W1 h1))) (Y6 (Z1 (Z0 (Z5 (vI 1) rfl rfl (Z2 (Z1 (Z0 (Z3 (b7) (by exact e2) rfl (Z3 (vI 1) rfl rfl ?_)))))))))
 obtain ⟨l2, a7⟩ := gd a7
 obtain ⟨_, _, _, o4, l3, m0, _, _, hS, i4⟩ := Ws1 h9 a8 (Wk5 hL g5 Z4) hS
 have Z4 := i4 H Z4 hM (fun b h => .inl (Xg4 g5 b h))
 have sB := i4 _ sB (fun _ => rfl) (fun b h => .inl (Xg4 n5 b h))
 have a4 := h7.mono sB
 have a5 := h8.mono sB
 have a3 := f1.mono sB
 refine U9 call33 (V2 rfl rfl) rfl (Yv4 (Y3.mono m0 l3) o4 l2.1 l2.2 hS) ?_
 rintro _ _ ⟨_, rfl, e9, hS, b2⟩
 refine ⟨_, rfl, ?_⟩
 have Z4 := Z4.trans e9
 have a3 := a3.mono e9
 have a4 := a4.mono e9
 have a5 := a5.mono e9
 have sB := sB.trans e9
 refine Z5 (vI (1 + M6 a6.1)) rfl rfl (Z2 (Z1 (Z0 (Z5 (vI 1) rfl rfl (Z2 (Z1 (Z0 (Z3 (b7) (by exact e2) rfl (Z3 (vI 1) rfl rfl ?_)))))))))
 obtain ⟨e5, o5, a7⟩ := bind_some a7
 refine X3 call34 (V2 rfl rfl) rfl (Yc7 o5 b2 hS) ?_
 rintro _ _ _ e3 hS rfl
 have Z4 := Z4.trans e3
 have a3 := a3.mono e3
 have b2 := b2.mono e3
 have a4 := a4.mono e3
 have a5 := a5.mono e3
 have sB := sB.trans e3
 refine Z5 (vI e5) rfl rfl (Z2 (Z1 (Z1 (Z0 (Z3 (vI e5) rfl rfl ?_)))))
 refine W8 (k := .i64) (a := e5) (b := 0) rfl rfl rfl (Z2 ?_)
 obtain ⟨h2, a7⟩ | ⟨h2, a7⟩ := ic a7
 refine Z8 (bT h2 rfl) (Z1 (Z0 (Z5 (vB false) rfl rfl (Z2 ?_))))
 refine Y9 (vs := [vB false]) func6 ⟨rfl, trivial⟩ ?_
 obtain rfl := oi a7
 exact ⟨_, _, rfl, Z4, (St.dropA (St.dropA hS)), rfl⟩
 refine Z7 (bF h2 rfl) (Y6 (Z1 (Z1 (Z0 (Z3 (vI e5) rfl rfl (Z3 (vI (1 + M6 a6.1)) rfl rfl ?_))))))
 refine M0 (k := .i64) (a := e5) (b := (1 + M6 a6.1)) rfl rfl rfl (Z2 ?_)
 obtain ⟨h3, a7⟩ | ⟨h3, a7⟩ := ic a7
 refine Z7 (bN h3 rfl) (Y6 (Z1 (Z0 ?_)))
 refine W3 Xq8 (by exact k9) (hS.get (mR mL)) rfl rfl ?_
 have q1 := Z4
 have q4 := sB
 obtain ⟨_, o6, a7⟩ := bind_some a7
 refine U9 call17 (R3 rfl) rfl (Zn4 o6 a4 a5 hS) ?_
 rintro _ _ ⟨_, i5, rfl, e4, hS, o7⟩
 obtain ⟨_, _, rfl, h4, h5⟩ := id o7.old
 have h4 := Y3.old h4
 have h5 := Y3.old h5
 refine ⟨_, rfl, ?_⟩
 have Z4 := Z4.trans e4
 have a3 := a3.mono e4
 have b2 := b2.mono e4
 have a4 := a4.mono e4
 have a5 := a5.mono e4
 have sB := sB.trans e4
 have c7 := Sub.refl i5
 refine Z3 (vI a1) (by exact k8) rfl ?_
 have q2 := Z4
 have q5 := sB
 have p0 := c7
 obtain ⟨d9, o8, a7⟩ := bind_some a7
 refine U9 call36 (V2 rfl rfl) rfl (Ya9 o8 h4 h5 hS) ?_
 rintro _ _ ⟨_, n0, rfl, e1, hS, f8, _, rfl, m2, rfl⟩
 have m3 := RdN.old m2
 refine ⟨_, rfl, ?_⟩
 have Z4 := Z4.trans e1
 have a3 := a3.mono e1
 have b2 := b2.mono e1
 have a4 := a4.mono e1
 have a5 := a5.mono e1
 have sB := sB.trans e1
 have c7 := c7.trans e1
 have c5 := Yi2 n0 i5
 have o9 := Y3.mono c5 m3
 refine Z3 (Value.tuple #[f8, vI d9.2]) rfl rfl (V3 (f8) rfl rfl rfl (V3 (vI d9.2) rfl rfl rfl (Z5 (f8) rfl rfl (Z5 (vI d9.2) rfl rfl (Z2 (Z1 (Z1 ?_)))))))
 refine N4 (fun f w => ∃ (c8 : Bool) (H1 : FH), F7 K a6 c8 = some r ∧ Sub H H1 ∧ St H1 w ([(g4, cA ([d1] ++ [d2]) 31)] ++ ([(b1, cA ([s0] ++ [s1]) 25)] ++ L)) ∧ Y3 (X2 yT) H1 b7 (Zz1 1 a6.1) ∧ Y3 (Y5 .i64) H1 s0 a0.1 ∧ Y3 (X2 yT) H1 s1 a0.2 ∧ tv f 9 = b7 ∧ tv f 12 = vI (1 + M6 a6.1) ∧ tv f 92 = vB c8 ∧ Sub H9.noM H1 ∧ Sub i5 H1 ∧ Sub (n0.new i5) H1) ?_ ?_
 rintro _ _ ⟨c8, _, a9, Z4, hS, b2, a4, a5, l4, i8, f4, sB, c7, c5⟩
 unfold F7 at a9
 obtain ⟨f9, a9⟩ | ⟨f9, a9⟩ := ic a9
 refine Z8 (Eq.trans (by exact f4) (congrArg vB f9)) (Z1 (Z0 (Z5 (vB false) rfl rfl (Z2 ?_))))
 refine Y9 (vs := [vB false]) func6 ⟨rfl, trivial⟩ ?_
 obtain rfl := oi a9
 exact ⟨_, _, rfl, Z4, (St.dropA (St.dropA hS)), rfl⟩
 refine Z7 (Eq.trans (by exact f4) (congrArg vB (W1 f9))) (Y6 (Z1 (Z0 (Z5 (vI 1) rfl rfl (Z2 (Z1 (Z0 (Z3 (b7) (by exact l4) rfl (Z3 (vI 1) rfl rfl ?_)))))))))
 obtain ⟨d4, m4, a9⟩ := bind_some a9
 refine X3 call34 (V2 rfl rfl) rfl (Yc7 m4 b2 hS) ?_
 rintro _ _ _ e6 hS rfl
 have Z4 := Z4.trans e6
 have sB := sB.trans e6
 have c7 := c7.trans e6
 have c5 := c5.trans e6
 refine Z5 (vI d4) rfl rfl (Z2 (Z1 (Z1 (Z0 (Z3 (vI d4) rfl rfl ?_)))))
 refine W8 (k := .i64) (a := d4) (b := 0) rfl rfl rfl (Z2 ?_)
 obtain ⟨g0, a9⟩ | ⟨g0, a9⟩ := ic a9
 refine Z8 (bT g0 rfl) (Z1 (Z0 (Z5 (vB false) rfl rfl (Z2 ?_))))
 refine Y9 (vs := [vB false]) func6 ⟨rfl, trivial⟩ ?_
 obtain rfl := oi a9
 exact ⟨_, _, rfl, Z4, (St.dropA (St.dropA hS)), rfl⟩
 refine Z7 (bF g0 rfl) (Y6 (Z1 (Z1 (Z0 (Z3 (vI d4) rfl rfl (Z3 (vI (1 + M6 a6.1)) (by exact i8) rfl ?_))))))
 refine M0 (k := .i64) (a := d4) (b := (1 + M6 a6.1)) rfl rfl rfl (Z2 ?_)
 obtain ⟨g1, a9⟩ | ⟨g1, a9⟩ := ic a9
 refine Z7 (bN g1 rfl) (Y6 (Z1 (Z0 (Z5 (vB true) rfl rfl (Z2 ?_)))))
 refine Y9 (vs := [vB true]) func6 ⟨rfl, trivial⟩ ?_
 obtain rfl := oi a9
 exact ⟨_, _, rfl, Z4, (St.dropA (St.dropA hS)), rfl⟩
 refine Z8 (bO g1 rfl) (Z1 (Z0 (Z5 (vB false) rfl rfl (Z2 ?_))))
 refine Y9 (vs := [vB false]) func6 ⟨rfl, trivial⟩ ?_
 obtain rfl := oi a9
 exact ⟨_, _, rfl, Z4, (St.dropA (St.dropA hS)), rfl⟩
 intro n1
 refine Z0 (Z3 (f8) rfl rfl (Z3 (c6) (by exact l0) rfl ?_))
 obtain ⟨f5, m5, a7⟩ := bind_some a7
 refine X3 call32 (V2 rfl rfl) rfl (Zq6 m5 o9 a3 hS) ?_
 rintro _ l5 _ d3 hS rfl
 have Z4 := Z4.trans d3
 have b2 := b2.mono d3
 have a4 := a4.mono d3
 have a5 := a5.mono d3
 have sB := sB.trans d3
 have c7 := c7.trans d3
 have c5 := c5.trans d3
 refine N8 (b := f5) rfl rfl (Z3 (vB (!f5)) rfl rfl ?_)
 obtain ⟨c0, a7⟩ | ⟨c0, a7⟩ := ic a7
 refine Y1 rfl rfl (nT c0) (Z3 (vI d9.2) rfl rfl ?_)
 refine Y1 rfl rfl (nT c0) (Z3 (vI r9.2) (by exact l1) rfl ?_)
 refine Y1 rfl rfl (nT c0) ?_
 refine M0 (k := .i64) (a := d9.2) (b := r9.2) rfl rfl rfl ?_
 refine W6 (t := false) (vB (!decide (d9.2 = r9.2))) (nT c0) ((if_neg Bool.false_ne_true).trans rfl) rfl (Z2 ?_)
 exact n1 _ _ ⟨(!decide (d9.2 = r9.2)), l5, a7, Z4, hS, b2, a4, a5, e2, rfl, rfl, sB, c7, c5⟩
 refine Z9 rfl rfl (nT (W1 c0)) rfl rfl rfl (Z9 rfl rfl (nT (W1 c0)) rfl rfl rfl (Z9 rfl rfl (nT (W1 c0)) rfl rfl rfl ?_))
 refine W6 (t := true) (vB true) (nT (W1 c0)) ((if_pos rfl).trans rfl) rfl (Z2 ?_)
 exact n1 _ _ ⟨true, l5, a7, Z4, hS, b2, a4, a5, e2, rfl, rfl, sB, c7, c5⟩
 refine Z8 (bO h3 rfl) (Z1 (Z0 (Z5 (vB false) rfl rfl (Z2 ?_))))
 refine Y9 (vs := [vB false]) func6 ⟨rfl, trivial⟩ ?_
 obtain rfl := oi a7
 exact ⟨_, _, rfl, Z4, (St.dropA (St.dropA hS)), rfl⟩
 intro l6
 refine Z0 (Z3 (vI (1 + Yf1 b4)) rfl rfl ?_)
 refine W8 (k := .i64) (a := (1 + Yf1 b4)) (b := 0) rfl rfl rfl (Z3 (vB (decide ((1 + Yf1 b4) < 0))) rfl rfl ?_)
 obtain ⟨b8, b0⟩ | ⟨b8, b0⟩ := ic b0
 refine Z9 rfl rfl (bT b8 rfl) rfl rfl rfl (Z9 rfl rfl (bT b8 rfl) rfl rfl rfl (Z9 rfl rfl (bT b8 rfl) rfl rfl rfl (Z9 rfl rfl (bT b8 rfl) rfl rfl rfl ?_)))
 refine W6 (t := true) (vB true) (bT b8 rfl) ((if_pos rfl).trans rfl) rfl (Z3 (vB true) rfl rfl (Z9 rfl rfl rfl rfl rfl rfl (Z9 rfl rfl rfl rfl rfl rfl (Z9 rfl rfl rfl rfl rfl rfl ?_))))
 refine W6 (t := true) (vB true) rfl ((if_pos rfl).trans rfl) rfl (Z2 ?_)
 exact l6 _ _ ⟨true, p9, b0, Z4, hS, b3, d7, d8, a4, a5, a3, k6, k7, i1, i2, i3, rfl, sB, a8⟩
 refine Y1 rfl rfl (bF b8 rfl) (Z3 (b7) (by exact i3) rfl ?_)
 refine Y1 rfl rfl (bF b8 rfl) (Z3 (c6) (by exact i1) rfl ?_)
 obtain ⟨e7, m6, b0⟩ := bind_some b0
 refine Y1 rfl rfl (bF b8 rfl) ?_
 refine X3 call32 (V2 rfl rfl) rfl (Zq6 m6 b3 a3 hS) ?_
 rintro _ l7 _ c1 hS rfl
 have Z4 := Z4.trans c1
 have a3 := a3.mono c1
 have b3 := b3.mono c1
 have d7 := d7.mono c1
 have d8 := d8.mono c1
 have a4 := a4.mono c1
 have a5 := a5.mono c1
 have sB := sB.trans c1
 have a8 := a8.trans c1
 refine Y1 rfl rfl (bF b8 rfl) (N8 (b := e7) rfl rfl ?_)
 refine W6 (t := false) (vB (!e7)) (bF b8 rfl) ((if_neg Bool.false_ne_true).trans rfl) rfl (Z3 (vB (!e7)) rfl rfl ?_)
 obtain ⟨c2, b0⟩ | ⟨c2, b0⟩ := ic b0
 refine Y1 rfl rfl (nT c2) (Z3 (vI a6.2) (by exact (evT (e0 10 rfl) i7)) rfl ?_)
 refine Y1 rfl rfl (nT c2) (Z3 (vI r9.2) (by exact i2) rfl ?_)
 refine Y1 rfl rfl (nT c2) ?_
 refine M0 (k := .i64) (a := a6.2) (b := r9.2) rfl rfl rfl ?_
 refine W6 (t := false) (vB (!decide (a6.2 = r9.2))) (nT c2) ((if_neg Bool.false_ne_true).trans rfl) rfl (Z2 ?_)
 exact l6 _ _ ⟨(!decide (a6.2 = r9.2)), l7, b0, Z4, hS, b3, d7, d8, a4, a5, a3, k6, k7, i1, i2, i3, rfl, sB, a8⟩
 refine Z9 rfl rfl (nT (W1 c2)) rfl rfl rfl (Z9 rfl rfl (nT (W1 c2)) rfl rfl rfl (Z9 rfl rfl (nT (W1 c2)) rfl rfl rfl ?_))
 refine W6 (t := true) (vB true) (nT (W1 c2)) ((if_pos rfl).trans rfl) rfl (Z2 ?_)
 exact l6 _ _ ⟨true, l7, b0, Z4, hS, b3, d7, d8, a4, a5, a3, k6, k7, i1, i2, i3, rfl, sB, a8⟩
 refine Z8 (Eq.trans (by exact m9) (congrArg (fun b => vB (!b)) (W1 h0))) (Z1 (Z0 (Z5 (vB false) rfl rfl (Z2 ?_))))
 refine Y9 (vs := [vB false]) func6 ⟨rfl, trivial⟩ ?_
 obtain rfl := oi b0
 exact ⟨_, _, rfl, Z4, (St.dropA (St.dropA hS)), rfl⟩
 intro n2
 refine Z0 (Z3 (b7) rfl rfl (Z3 (c6) rfl rfl ?_))
 obtain ⟨f6, m7, q0⟩ := bind_some q0
 refine X3 call32 (V2 rfl rfl) rfl (Zq6 m7 b3 a3 hS) ?_
 rintro _ l9 _ b9 hS rfl
 have Z4 := Z4.trans b9
 have a3 := a3.mono b9
 have b3 := b3.mono b9
 have a4 := a4.mono b9
 have a5 := a5.mono b9
 have b5 := b5.mono b9
 have b6 := b6.mono b9
 have sB := sB.trans b9
 have c4 := c4.trans b9
 have a8 := a8.trans b9
 refine N8 (b := f6) rfl rfl (Z3 (vB (!f6)) rfl rfl ?_)
 obtain ⟨c3, q0⟩ | ⟨c3, q0⟩ := ic q0
 refine Y1 rfl rfl (nT c3) (Z3 (vI a6.2) rfl rfl ?_)
 refine Y1 rfl rfl (nT c3) (Z3 (vI r9.2) rfl rfl ?_)
 refine Y1 rfl rfl (nT c3) ?_
 refine M0 (k := .i64) (a := a6.2) (b := r9.2) rfl rfl rfl ?_
 refine W6 (t := false) (vB (!decide (a6.2 = r9.2))) (nT c3) ((if_neg Bool.false_ne_true).trans rfl) rfl (Z2 ?_)
 exact n2 _ _ ⟨(!decide (a6.2 = r9.2)), l9, q0, Z4, hS, b5, b3, b6, a4, a5, a3, rfl, rfl, rfl, rfl, rfl, rfl, rfl, rfl, sB, c4, a8⟩
 refine Z9 rfl rfl (nT (W1 c3)) rfl rfl rfl (Z9 rfl rfl (nT (W1 c3)) rfl rfl rfl (Z9 rfl rfl (nT (W1 c3)) rfl rfl rfl ?_))
 refine W6 (t := true) (vB true) (nT (W1 c3)) ((if_pos rfl).trans rfl) rfl (Z2 ?_)
 exact n2 _ _ ⟨true, l9, q0, Z4, hS, b5, b3, b6, a4, a5, a3, rfl, rfl, rfl, rfl, rfl, rfl, rfl, rfl, sB, c4, a8⟩
end Go.Proofs.YtabofnehiclkiaaGreat
