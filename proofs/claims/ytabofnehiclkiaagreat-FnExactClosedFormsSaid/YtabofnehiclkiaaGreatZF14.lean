/- Walks of functions: each computes its pure function, if that gives a value. -/
import Derived.Test.YtabofnehiclkiaaGreatZF13
namespace Go.Proofs.YtabofnehiclkiaaGreat
open Go Go.Proofs.Tryz
set_option linter.unusedSimpArgs false
set_option linter.unusedVariables false
set_option maxRecDepth 100000
set_option maxHeartbeats 8000000
variable {K : Nat} {H : FH} {w : World} {L : OL} {s0 s1 s2 s3 s4 s5 s6 : Value}
def R4 (K : Nat) (a3 : Int) : Nat → Int → A8 → Option (Ex MpT (A8))
 | 0, _, _ => none
 | k + 1, b5, b7 => (if b5 < (a3 + 1) then (if b5 < 8 then R4 K a3 k (b5 + 1) (U8 b7 b5 0) else none) else some (.go b7))
def P9 (K : Nat) (i1 : Int → Int → A8 → MpT → Option (Ex MpT (A8 × MpT))) (a0 : ((List Int) × (List MpT))) (a8 : Int) (a3 : Int) (a4 : A8) (a6 : (A8 × Int)) (b0 : MpT) : Option (Ex MpT (A8 × MpT)) := (if a3 < (a0.1.length : Int) then (if (((rd a0.1 a3)).tmod 2) = 1 then (if (((Y4 a6.1 a3)).tmod 2) = 1 then i1 (IntKind.i64.wrap (0 - a8)) (a3 + 1) (U8 a4 a3 (Y4 a6.1 a3)) b0 else i1 a8 (a3 + 1) (U8 a4 a3 (Y4 a6.1 a3)) b0) else i1 a8 (a3 + 1) (U8 a4 a3 (Y4 a6.1 a3)) b0) else i1 a8 (a3 + 1) (U8 a4 a3 (Y4 a6.1 a3)) b0)
def T1 (K : Nat) (a0 : ((List Int) × (List MpT))) (r6 : M8) (a6 : (A8 × Int)) : Nat → Int → Int → A8 → MpT → Option (Ex MpT (A8 × MpT))
 | 0, _, _, _, _ => none
 | k + 1, a8, a3, a4, c0 => (if a3 < 8 then (if 0 < (Y4 a6.1 a3) then ((R4 K a3 K 0 a6.1).bind (Ex.elim (fun r => some (.ret r)) (fun s => (fun (b2 : A8) => ((D4 K (Zb4 ([] : MpT) (U8 a4 a3 (IntKind.i64.wrap ((Y4 a6.1 a3) - 1))) 1) a0.1 (Yd9 r6 a3)).bind fun h4 => ((D4 K h4 a0.1 (Zb4 ([] : MpT) b2 1)).bind fun g2 => ((Zm4 K (IntKind.i64.wrap ((IntKind.i64.wrap (a8 * a6.2)) * (Y4 a6.1 a3)))).bind fun l1 => ((F4 K c0 g2 l1).bind fun i3 => P9 K (T1 K a0 r6 a6 k) a0 a8 a3 a4 a6 i3))))) s))) else P9 K (T1 K a0 r6 a6 k) a0 a8 a3 a4 a6 c0) else some (.go (a4, c0)))
def S0 (K : Nat) (a0 : ((List Int) × (List MpT))) (r6 : M8) : Nat → MpT → MpT → Option (Ex MpT (MpT))
 | 0, _, _ => none
 | k + 1, [], b4 => some (.go b4)
 | k + 1, a6 :: f5, b4 => ((T1 K a0 r6 a6 K 1 0 (fun _ => 0) b4).bind (Ex.elim (fun r => some (.ret r)) (fun s => (fun (e4 : A8) (d4 : MpT) => S0 K a0 r6 k f5 d4) s.1 s.2)))
theorem Yi9 {a0 : ((List Int) × (List MpT))} {r6 : M8} {b4 : MpT} {k : Nat} {zp zq : MpT} {o : Ex MpT (MpT)} (hp : zp.Perm zq) (q : S0 K a0 r6 k zp b4 = some o) : S0 K a0 r6 k zq b4 = some o := by
 have h2 : ∀ (i : Int) (k : Nat) (j : Int) (b : A8) e, R4 K i k j b = some e → ∃ y, e = .go y := by
  intro i k
  induction k with
  | zero => intro j b e h; rw [R4] at h; cases h
  | succ k ih =>
   intro j b e h
   rw [R4] at h
   split at h
   split at h
   exact ih _ _ _ h
   cases h
   cases h; exact ⟨_, rfl⟩
 have hj : ∀ (i1 : Int → Int → A8 → MpT → Option (Ex MpT (A8 × MpT))) (a b : Int) (c : A8) (z : A8 × Int), (∀ a b c, Zq1 K (fun (x : A8) s => (x, s)) (fun s => i1 a b c s)) →
  Zq1 K (fun (x : A8) s => (x, s)) (fun s => P9 K i1 a0 a b c z s) := by
  intro i1 a b c z h
  unfold P9
  exact .ite (.ite (.ite (h _ _ _) (h _ _ _)) (h _ _ _)) (h _ _ _)
 have hl : ∀ (z : A8 × Int) (k : Nat) (a b : Int) (c : A8), Zq1 K (fun (x : A8) s => (x, s)) (fun s => T1 K a0 r6 z k a b c s) := by
  intro z k
  induction k with
  | zero => intro a b c; exact ⟨none, fun s => (show T1 K a0 r6 z 0 a b c s = none by rw [T1])⟩
  | succ k ih =>
   intro a b c
   have e : (fun s => T1 K a0 r6 z (k + 1) a b c s) = fun s => (if b < 8 then (if 0 < (Y4 z.1 b) then ((R4 K b K 0 z.1).bind fun e => (match e with
    | .ret r => some (.ret r)
    | .go y => ((D4 K (Zb4 ([] : MpT) (U8 c b (IntKind.i64.wrap ((Y4 z.1 b) - 1))) 1) a0.1 (Yd9 r6 b)).bind fun h4 => ((D4 K h4 a0.1 (Zb4 ([] : MpT) y 1)).bind fun g2 => ((Zm4 K (IntKind.i64.wrap ((IntKind.i64.wrap (a * z.2)) * (Y4 z.1 b)))).bind fun l1 => ((F4 K s g2 l1).bind fun i3 => P9 K (T1 K a0 r6 z k) a0 a b c z i3)))))) else P9 K (T1 K a0 r6 z k) a0 a b c z s) else some (.go (c, s))) := by
    funext s
    rw [T1]
    split
    split
    cases R4 K b K 0 z.1 with
    | none => rfl
    | some e => cases e <;> rfl
    rfl
    rfl
   rw [e]
   refine .ite (.ite ?_ (hj _ _ _ _ _ ih)) (.go (h := fun (x : A8) s => (x, s)) c)
   cases hq : R4 K b K 0 z.1 with
   | none => exact .fail
   | some e =>
    obtain ⟨y, rfl⟩ := h2 _ _ _ _ _ hq
    simp only [Option.bind_some]
    exact .const fun h4 => .const fun g2 => .const fun l1 => .bind (Wg5 _ _) (hj _ _ _ _ _ ih)
 exact (Yl8 (K := K) (fun k zs s => S0 K a0 r6 k zs s) (by intros; rw [S0])
  (fun z => by
   obtain ⟨F, hF, hs⟩ := (hl z K 1 0 (fun _ => 0)).step (fun s => s.2) (fun _ _ => rfl)
   refine ⟨F, hF, fun k zs s => ?_⟩
   rw [S0]
   exact hs _ (S0 K a0 r6 k zs) s) hp k b4).symm.trans q
def Za2 (K : Nat) (a0 : ((List Int) × (List MpT))) (a1 : MpT) : Option MpT := ((Zd8 K (a0.1, a0.2)).bind fun r6 => ((S0 K a0 r6 K a1 ([] : MpT)).bind (Ex.elim (fun r => some r) (fun s => (fun (e1 : MpT) => some e1) s))))
theorem Yc9 {a0 : ((List Int) × (List MpT))} {a1 : MpT} {r : MpT} (q0 : Za2 K a0 a1 = some r) (x5 : Zs8 (Yh5 (X2 (Y5 .i64)) (X2 (X2 yT))) H s0 a0) (o6 : N1 .i64 H s1 a1) (hS : St H w L) :
 Calls prog 116 #[s0, s1] w (Xq5 .i64 r H L) := by
 obtain ⟨c5, d2, h5, j8, _, rfl, a9, ⟨_, _, rfl, ⟨c3, rfl, a5⟩, ⟨e2, rfl, a7⟩⟩, i4⟩ := x5
 have Z4 := Sub.refl H
 refine X0 func116 rfl ntmps116 rfl ?_
 unfold Za2 at q0
 refine Z1 (Z0 (Z5 (Value.map none) rfl rfl (Z2 (Z1 (Z0 ?_)))))
 refine Yg2 (k := .i64) hS rfl ?_
 intro m1 _ C3 o7 hS
 refine Z3 (vQ c5 d2) rfl rfl ?_
 obtain ⟨r6, x6, q0⟩ := bind_some q0
 refine X3 call205 (R3 rfl) rfl (Yi7 x6 ⟨_, _, _, _, _, rfl, a9, ⟨_, _, rfl, ⟨_, rfl, a5⟩, ⟨_, rfl, a7⟩⟩, i4⟩ hS) ?_
 rintro _ H6 _ j9 hS ⟨_, rfl, ⟨u6, rfl, b8⟩⟩
 have Z4 := Z4.trans j9
 have a5 := a5.mono j9
 have a7 := a7.mono j9
 have o6 := o6.mono j9
 have o7 := o7.mono j9
 have a9 := j9.1 _ _ a9
 have y9 : RdV .i64 H6 Zn7 (fun _ => ([] : MpT)) := RdV.nil
 refine U4 (z := vA (N9 Zn7)) (N9 Zn7).toArray Wh5.zero rfl hS rfl ?_
 intro b9 _ hS
 refine Z5 (m1) rfl rfl ?_
 refine W4 (v := vA (N9 u6)) (vs := (N9 u6).toArray) (cs := (N9 Zn7).toArray) Xi1 rfl rfl rfl hS rfl (Yr5 b8) rfl ?_
 intro _ hS
 refine Z2 (Z1 (Z1 (Z0 (Z3 (s1) rfl rfl ?_))))
 refine Yi4 Zq8 rfl o6 hS rfl ?_
 intro c9 _ x7 u4 hS
 refine Z2 (Y8 ?_)
 obtain ⟨o8, d6, o9⟩ := bind_some q0
 refine W0 (id := 0) (fun k f w => ∃ (e5 : MpT) (b4 : MpT) (H1 : FH) (d3 : OL) (d0 : OL), S0 K a0 r6 k e5 b4 = some o8 ∧ Sub H H1 ∧ St H1 w (d3 ++ ([(b9, cA (N9 u6) 237)] ++ (d0 ++ L))) ∧ Zg2 .i64 H1 c9 e5 none d3 ∧ Q2 .i64 m1 b4 d0 ∧ RdV .i64 H1 u6 r6 ∧ Y3 (Y5 .i64) H1 c3 a0.1 ∧ Y3 (X2 yT) H1 e2 a0.2 ∧ H1 c5 = some (.cells h5 j8) ∧ tv f 0 = vQ c5 d2 ∧ tv f 5 = m1 ∧ tv f 6 = vP b9 ∧ tv f 21 = c9) (fun f w => ∃ (e1 : MpT) (H1 : FH) (f6 : OL) (g3 : OL), o8 = .go e1 ∧ Sub H H1 ∧ St H1 w (f6 ++ ([(b9, cA (N9 u6) 237)] ++ (g3 ++ L))) ∧ Zg2 .i64 H1 c9 ([] : MpT) none f6 ∧ Q2 .i64 m1 e1 g3 ∧ RdV .i64 H1 u6 r6 ∧ tv f 5 = m1) rfl ?_ ?_ K ?_ ?_
 rintro f w ⟨e5, b4, H1, d3, d0, d6, _⟩
 rw [S0] at d6; cases d6
 rintro k _ _ x8 x9 ⟨e5, b4, p0, d3, d0, d6, Z4, hS, h1, i2, b8, a5, a7, a9, n7, k0, n8, g4⟩
 refine Z1 (Z0 ?_)
 refine Yo0 (by exact g4) h1 hS rfl ?_ ?_
 intro u5; subst u5
 rw [S0] at d6
 refine V3 (vB false) rfl rfl rfl (Z2 (Z1 (Z7 rfl ?_)))
 refine X7 rfl ?_
 obtain rfl := oi d6
 exact x9 _ _ ⟨b4, p0, d3, d0, rfl, Z4, hS, h1, i2, b8, k0⟩
 intro a6 f5 _ d8 u7 b6 hS
 replace d6 := Yi9 u7 d6
 rw [S0] at d6
 refine V3 (vB true) rfl rfl rfl (Z2 (Z1 (Z8 rfl (Y6 (Y8 (Z1 (Z0 ?_)))))))
 refine Yi5 (by exact g4) b6 hS rfl (V3 (vA (Z6 .i64 a6.1)) rfl rfl rfl (V3 (vI a6.2) rfl rfl rfl ?_))
 refine U4 (z := vA (Z6 .i64 (fun _ => 0))) (Z6 .i64 (fun _ => 0)).toArray Zk4.zero rfl hS rfl ?_
 intro f3 _ hS
 refine W4 (v := vA (Z6 .i64 a6.1)) (vs := (Z6 .i64 a6.1).toArray) (cs := (Z6 .i64 (fun _ => 0)).toArray) Q6 rfl rfl rfl hS rfl (S8 .i64 a6.1) rfl ?_
 intro _ hS
 refine Z5 (vI a6.2) rfl rfl (Z2 (Z1 (Z0 ?_)))
 refine B5 (vA (Z6 .i64 (fun _ => 0))) Xq3 rfl ?_
 refine U4 (z := vA (Z6 .i64 (fun _ => 0))) (Z6 .i64 (fun _ => 0)).toArray Zk4.zero rfl hS rfl ?_
 intro f4 _ hS
 refine W4 (v := vA (Z6 .i64 (fun _ => 0))) (vs := (Z6 .i64 (fun _ => 0)).toArray) (cs := (Z6 .i64 (fun _ => 0)).toArray) Q6 rfl rfl rfl hS rfl (S8 .i64 (fun _ => 0)) rfl ?_
 intro _ hS
 refine Z5 (vI 1) rfl rfl (Z2 (Z1 (Z0 ?_)))
 refine W3 Q6 rfl (hS.get (mR mL)) rfl rfl (Z3 (vI 0) rfl rfl (Z2 (Y8 ?_)))
 obtain ⟨m2, c7, p1⟩ := bind_some d6
 refine W0 (id := 2) (fun k f w => ∃ (a8 : Int) (a3 : Int) (a4 : A8) (c0 : MpT) (H1 : FH) (b3 : OL), T1 K a0 r6 a6 k a8 a3 a4 c0 = some m2 ∧ Sub H H1 ∧ St H1 w ([(f4, cA (Z6 .i64 a4) 222)] ++ ([(f3, cA (Z6 .i64 a6.1) 222)] ++ (d8 ++ ([(b9, cA (N9 u6) 237)] ++ (b3 ++ L))))) ∧ 0 ≤ a3 ∧ Q2 .i64 m1 c0 b3 ∧ RdV .i64 H1 u6 r6 ∧ Y3 (Y5 .i64) H1 c3 a0.1 ∧ Y3 (X2 yT) H1 e2 a0.2 ∧ Zg2 .i64 H1 c9 f5 (some a6) d8 ∧ H1 c5 = some (.cells h5 j8) ∧ tv f 0 = vQ c5 d2 ∧ tv f 5 = m1 ∧ tv f 6 = vP b9 ∧ tv f 7 = vP f3 ∧ tv f 8 = vI a6.2 ∧ tv f 9 = vP f4 ∧ tv f 10 = vI a8 ∧ tv f 21 = c9 ∧ tv f 28 = vA (Z6 .i64 a6.1) ∧ tv f 29 = vI a3) (fun f w => ∃ (e4 : A8) (d4 : MpT) (H1 : FH) (e6 : OL), m2 = .go (e4, d4) ∧ Sub H H1 ∧ St H1 w ([(f4, cA (Z6 .i64 e4) 222)] ++ ([(f3, cA (Z6 .i64 a6.1) 222)] ++ (d8 ++ ([(b9, cA (N9 u6) 237)] ++ (e6 ++ L))))) ∧ Q2 .i64 m1 d4 e6 ∧ RdV .i64 H1 u6 r6 ∧ Y3 (Y5 .i64) H1 c3 a0.1 ∧ Y3 (X2 yT) H1 e2 a0.2 ∧ Zg2 .i64 H1 c9 f5 (some a6) d8 ∧ H1 c5 = some (.cells h5 j8) ∧ tv f 0 = vQ c5 d2 ∧ tv f 5 = m1 ∧ tv f 6 = vP b9 ∧ tv f 21 = c9) rfl ?_ ?_ K ?_ ?_
 rintro f w ⟨a8, a3, a4, c0, H1, b3, c7, _⟩
 rw [T1] at c7; cases c7
 rintro k _ _ n4 y0 ⟨a8, a3, a4, c0, m3, b3, c7, Z4, hS, _, b1, b8, a5, a7, b6, a9, h6, h7, h8, h9, k1, k2, i5, g5, g6, d7⟩
 rw [T1] at c7
 refine Z1 (Z0 ?_)
 refine W8 (k := .i64) (a := a3) (b := 8) (by exact d7) rfl rfl (Z2 (Z1 ?_))
 obtain ⟨m4, c7⟩ | ⟨m4, c7⟩ := ic c7
 refine Z8 (bT m4 rfl) (Y6 (Z1 (Y8 (Z1 (Z0 (Z3 (vI a3) (by exact d7) rfl ?_))))))
 refine Yl9 (vI (Y4 a6.1 a3)) Zk7 (by exact g6) (by exact d7) (by omega) (by omega) (Yk2 (by omega) (by omega)) rfl (Z5 (vI a3) rfl rfl (Z5 (vI (Y4 a6.1 a3)) rfl rfl (Z2 (Z1 (Z1 (Z0 (Z3 (vI (Y4 a6.1 a3)) rfl rfl ?_)))))))
 refine Za9 (k := .i64) (a := (Y4 a6.1 a3)) (b := 0) rfl rfl rfl (Z2 ?_)
 refine N4 (fun f w => ∃ (b0 : MpT) (H1 : FH) (c1 : OL), P9 K (T1 K a0 r6 a6 k) a0 a8 a3 a4 a6 b0 = some m2 ∧ Sub H H1 ∧ St H1 w ([(f4, cA (Z6 .i64 a4) 222)] ++ ([(f3, cA (Z6 .i64 a6.1) 222)] ++ (d8 ++ ([(b9, cA (N9 u6) 237)] ++ (c1 ++ L))))) ∧ Q2 .i64 m1 b0 c1 ∧ RdV .i64 H1 u6 r6 ∧ Y3 (Y5 .i64) H1 c3 a0.1 ∧ Y3 (X2 yT) H1 e2 a0.2 ∧ Zg2 .i64 H1 c9 f5 (some a6) d8 ∧ H1 c5 = some (.cells h5 j8) ∧ tv f 0 = vQ c5 d2 ∧ tv f 5 = m1 ∧ tv f 6 = vP b9 ∧ tv f 7 = vP f3 ∧ tv f 8 = vI a6.2 ∧ tv f 9 = vP f4 ∧ tv f 10 = vI a8 ∧ tv f 11 = vI a3 ∧ tv f 12 = vI (Y4 a6.1 a3) ∧ tv f 21 = c9 ∧ tv f 28 = vA (Z6 .i64 a6.1) ∧ tv f 29 = vI a3) ?_ ?_
 rintro _ _ ⟨b0, h3, c1, c4, Z4, hS, c8, b8, a5, a7, b6, a9, d5, f7, f8, f9, g0, e3, e7, g7, i6, e8, e9, f0⟩
 unfold P9 at c4
 refine Z1 (Z0 (Z3 (vI a3) (by exact g7) rfl (Z3 (vI (Y4 a6.1 a3)) (by exact i6) rfl ?_)))
 refine V5 Zk7 (by exact e3) rfl (by omega) (by omega) rfl ?_
 refine K6 (v := vI (Y4 a6.1 a3)) (cs := (Z6 .i64 a4).toArray) (cs' := (Z6 .i64 (U8 a4 a3 (Y4 a6.1 a3))).toArray) ty3 rfl rfl hS rfl (Zs5 rfl) (by simp [Z6, N9]; omega) (Zh7 (by omega) (by omega)) ?_
 intro _ hS
 refine Z2 (Z1 (Z0 (Z3 (vI a3) (by exact g7) rfl (Z3 (vQ c5 d2) (by exact d5) rfl (V4 rfl rfl (Y2 L6 rfl rfl ?_))))))
 refine Y0 (c3) P4 rfl (hS.froz _ _ a9) (i4 0 (show 0 < 2 by decide)) rfl ?_
 have y8 := a5.bound
 refine X9 U5 rfl a5 rfl ?_
 refine W8 (k := .i64) (a := a3) (b := (a0.1.length : Int)) rfl rfl rfl (Z3 (vB (decide (a3 < (a0.1.length : Int)))) rfl rfl ?_)
 obtain ⟨c2, c4⟩ | ⟨c2, c4⟩ := ic c4
 refine Y1 rfl rfl (bT c2 rfl) (Z3 (vQ c5 d2) (by exact d5) rfl ?_)
 refine Y1 rfl rfl (bT c2 rfl) (V4 rfl rfl ?_)
 refine Y1 rfl rfl (bT c2 rfl) (Y2 L6 rfl rfl ?_)
 refine Y1 rfl rfl (bT c2 rfl) ?_
 refine Y0 (c3) P4 rfl (hS.froz _ _ a9) (i4 0 (show 0 < 2 by decide)) rfl ?_
 refine Y1 rfl rfl (bT c2 rfl) (Z3 (vI a3) (by exact g7) rfl ?_)
 obtain ⟨_, _, _, _, _, u8, u9, rfl, v0⟩ := a5.elem (i := a3) (by omega) (by omega)
 refine Y1 rfl rfl (bT c2 rfl) ?_
 refine X5 U5 rfl rfl u8 rfl (by omega) (by omega) rfl ?_
 refine Y1 rfl rfl (bT c2 rfl) ?_
 refine Y0 (vI (rd a0.1 a3)) ty2 rfl (hS.froz _ _ u9) (v0 0 (show 0 < 1 by decide)) rfl ?_
 refine Y1 rfl rfl (bT c2 rfl) ?_
 refine Zc1 (((rd a0.1 a3)).tmod 2) rfl rfl (by decide) rfl rfl ?_
 refine Y1 rfl rfl (bT c2 rfl) ?_
 refine Za0 (k := .i64) (a := (((rd a0.1 a3)).tmod 2)) (b := 1) rfl rfl rfl ?_
 refine W6 (t := true) (vB (decide ((((rd a0.1 a3)).tmod 2) = 1))) (bT c2 rfl) ((if_pos rfl).trans rfl) rfl (Z3 (vB (decide ((((rd a0.1 a3)).tmod 2) = 1))) rfl rfl ?_)
 obtain ⟨f1, c4⟩ | ⟨f1, c4⟩ := ic c4
 refine Y1 rfl rfl (bT f1 rfl) (Z3 (vI (Y4 a6.1 a3)) (by exact i6) rfl ?_)
 refine Y1 rfl rfl (bT f1 rfl) ?_
 refine Zc1 (((Y4 a6.1 a3)).tmod 2) rfl rfl (by decide) rfl rfl ?_
 refine Y1 rfl rfl (bT f1 rfl) ?_
 refine Za0 (k := .i64) (a := (((Y4 a6.1 a3)).tmod 2)) (b := 1) rfl rfl rfl ?_
 refine W6 (t := true) (vB (decide ((((Y4 a6.1 a3)).tmod 2) = 1))) (bT f1 rfl) ((if_pos rfl).trans rfl) rfl (Z2 ?_)
 obtain ⟨m5, c4⟩ | ⟨m5, c4⟩ := ic c4
 refine Z8 (bT m5 rfl) (Z0 (Z3 (vI a8) (by exact e7) rfl ?_))
 refine Xq6 (IntKind.i64.wrap (0 - a8)) rfl rfl rfl (Z5 (vI (IntKind.i64.wrap (0 - a8))) rfl rfl (Z2 (X1 (Z0 ?_))))
 refine W2 (a3 + 1) (by exact f0) rfl (IntWalk.i64_in _ (by omega)) rfl (Z3 (vI (a3 + 1)) rfl rfl (Z2 ?_))
 exact n4 _ _ ⟨(IntKind.i64.wrap (0 - a8)), (a3 + 1), (U8 a4 a3 (Y4 a6.1 a3)), b0, h3, c1, c4, Z4, hS, (by omega), c8, b8, a5, a7, b6, a9, d5, f7, f8, f9, g0, e3, rfl, e8, e9, rfl⟩
 refine Z7 (bF m5 rfl) (Y6 (X1 (Z0 ?_)))
 refine W2 (a3 + 1) (by exact f0) rfl (IntWalk.i64_in _ (by omega)) rfl (Z3 (vI (a3 + 1)) rfl rfl (Z2 ?_))
 exact n4 _ _ ⟨a8, (a3 + 1), (U8 a4 a3 (Y4 a6.1 a3)), b0, h3, c1, c4, Z4, hS, (by omega), c8, b8, a5, a7, b6, a9, d5, f7, f8, f9, g0, e3, e7, e8, e9, rfl⟩
 refine Z9 rfl rfl (bF f1 rfl) rfl rfl rfl (Z9 rfl rfl (bF f1 rfl) rfl rfl rfl (Z9 rfl rfl (bF f1 rfl) rfl rfl rfl ?_))
 refine W6 (t := false) (vB false) (bF f1 rfl) ((if_neg Bool.false_ne_true).trans rfl) rfl (Z2 (Z7 rfl (Y6 (X1 (Z0 ?_)))))
 refine W2 (a3 + 1) (by exact f0) rfl (IntWalk.i64_in _ (by omega)) rfl (Z3 (vI (a3 + 1)) rfl rfl (Z2 ?_))
 exact n4 _ _ ⟨a8, (a3 + 1), (U8 a4 a3 (Y4 a6.1 a3)), b0, h3, c1, c4, Z4, hS, (by omega), c8, b8, a5, a7, b6, a9, d5, f7, f8, f9, g0, e3, e7, e8, e9, rfl⟩
 refine Z9 rfl rfl (bF c2 rfl) rfl rfl rfl (Z9 rfl rfl (bF c2 rfl) rfl rfl rfl (Z9 rfl rfl (bF c2 rfl) rfl rfl rfl (Z9 rfl rfl (bF c2 rfl) rfl rfl rfl (Z9 rfl rfl (bF c2 rfl) rfl rfl rfl (Z9 rfl rfl (bF c2 rfl) rfl rfl rfl (Z9 rfl rfl (bF c2 rfl) rfl rfl rfl (Z9 rfl rfl (bF c2 rfl) rfl rfl rfl (Z9 rfl rfl (bF c2 rfl) rfl rfl rfl ?_))))))))
 refine W6 (t := false) (vB false) (bF c2 rfl) ((if_neg Bool.false_ne_true).trans rfl) rfl (Z3 (vB false) rfl rfl (Z9 rfl rfl rfl rfl rfl rfl (Z9 rfl rfl rfl rfl rfl rfl (Z9 rfl rfl rfl rfl rfl rfl ?_))))
 refine W6 (t := false) (vB false) rfl ((if_neg Bool.false_ne_true).trans rfl) rfl (Z2 (Z7 rfl (Y6 (X1 (Z0 ?_)))))
 refine W2 (a3 + 1) (by exact f0) rfl (IntWalk.i64_in _ (by omega)) rfl (Z3 (vI (a3 + 1)) rfl rfl (Z2 ?_))
 exact n4 _ _ ⟨a8, (a3 + 1), (U8 a4 a3 (Y4 a6.1 a3)), b0, h3, c1, c4, Z4, hS, (by omega), c8, b8, a5, a7, b6, a9, d5, f7, f8, f9, g0, e3, e7, e8, e9, rfl⟩
 intro p2
 obtain ⟨m6, c7⟩ | ⟨m6, c7⟩ := ic c7
 refine Z8 (bT m6 rfl) (Z1 (Z0 ?_))
 refine W3 Q6 (by exact h9) (hS.get (mR mL)) rfl rfl ?_
 refine U4 (z := vA (Z6 .i64 (fun _ => 0))) (Z6 .i64 (fun _ => 0)).toArray Zk4.zero rfl hS rfl ?_
 intro i7 _ hS
 refine W4 (v := vA (Z6 .i64 a6.1)) (vs := (Z6 .i64 a6.1).toArray) (cs := (Z6 .i64 (fun _ => 0)).toArray) Q6 rfl rfl rfl hS rfl (S8 .i64 a6.1) rfl ?_
 intro _ hS
 refine Z2 (Z1 (Z1 (Z0 (Z3 (vI a3) rfl rfl ?_))))
 refine W2 (a3 + 1) rfl rfl (IntWalk.i64_in _ (by omega)) rfl (Z3 (vI 0) rfl rfl (Z2 (Y8 ?_)))
 obtain ⟨p3, d1, e0⟩ := bind_some c7
 refine W0 (id := 4) (fun k f w => ∃ (b5 : Int) (b7 : A8) (H1 : FH), R4 K a3 k b5 b7 = some p3 ∧ Sub H H1 ∧ St H1 w ([(i7, cA (Z6 .i64 b7) 222)] ++ ([(f4, cA (Z6 .i64 a4) 222)] ++ ([(f3, cA (Z6 .i64 a6.1) 222)] ++ (d8 ++ ([(b9, cA (N9 u6) 237)] ++ (b3 ++ L)))))) ∧ 0 ≤ b5 ∧ RdV .i64 H1 u6 r6 ∧ Y3 (Y5 .i64) H1 c3 a0.1 ∧ Y3 (X2 yT) H1 e2 a0.2 ∧ Q2 .i64 m1 c0 b3 ∧ Zg2 .i64 H1 c9 f5 (some a6) d8 ∧ H1 c5 = some (.cells h5 j8) ∧ tv f 0 = vQ c5 d2 ∧ tv f 5 = m1 ∧ tv f 6 = vP b9 ∧ tv f 7 = vP f3 ∧ tv f 8 = vI a6.2 ∧ tv f 9 = vP f4 ∧ tv f 10 = vI a8 ∧ tv f 11 = vI a3 ∧ tv f 12 = vI (Y4 a6.1 a3) ∧ tv f 13 = vP i7 ∧ tv f 21 = c9 ∧ tv f 28 = vA (Z6 .i64 a6.1) ∧ tv f 29 = vI a3 ∧ tv f 37 = vI (a3 + 1) ∧ tv f 38 = vI b5) (fun f w => ∃ (b2 : A8) (H1 : FH), p3 = .go b2 ∧ Sub H H1 ∧ St H1 w ([(i7, cA (Z6 .i64 b2) 222)] ++ ([(f4, cA (Z6 .i64 a4) 222)] ++ ([(f3, cA (Z6 .i64 a6.1) 222)] ++ (d8 ++ ([(b9, cA (N9 u6) 237)] ++ (b3 ++ L)))))) ∧ RdV .i64 H1 u6 r6 ∧ Y3 (Y5 .i64) H1 c3 a0.1 ∧ Y3 (X2 yT) H1 e2 a0.2 ∧ Q2 .i64 m1 c0 b3 ∧ Zg2 .i64 H1 c9 f5 (some a6) d8 ∧ H1 c5 = some (.cells h5 j8) ∧ tv f 0 = vQ c5 d2 ∧ tv f 5 = m1 ∧ tv f 6 = vP b9 ∧ tv f 7 = vP f3 ∧ tv f 8 = vI a6.2 ∧ tv f 9 = vP f4 ∧ tv f 10 = vI a8 ∧ tv f 11 = vI a3 ∧ tv f 12 = vI (Y4 a6.1 a3) ∧ tv f 13 = vP i7 ∧ tv f 21 = c9 ∧ tv f 28 = vA (Z6 .i64 a6.1) ∧ tv f 29 = vI a3) rfl ?_ ?_ K ?_ ?_
 rintro f w ⟨b5, b7, H1, d1, _⟩
 rw [R4] at d1; cases d1
 rintro k _ _ y1 y2 ⟨b5, b7, p4, d1, Z4, hS, _, b8, a5, a7, b1, b6, a9, k3, k4, k5, k6, k7, k8, i8, i9, j0, g8, j1, j2, j3, j4, g9⟩
 rw [R4] at d1
 refine Z1 (Z0 ?_)
 refine W8 (k := .i64) (a := b5) (b := (a3 + 1)) (by exact g9) (by exact j4) rfl (Z2 (Z1 ?_))
 obtain ⟨m7, d1⟩ | ⟨m7, d1⟩ := ic d1
 refine Z8 (bT m7 rfl) (Y6 (Z1 (Y8 (Z1 (Z0 (Z3 (vI b5) (by exact g9) rfl (Z5 (vI b5) rfl rfl (Z2 (Z0 (Z3 (vI b5) rfl rfl ?_))))))))))
 obtain ⟨_, d1⟩ := gd d1
 refine V5 Zk7 (by exact g8) rfl (by omega) (by omega) rfl ?_
 refine K6 (v := vI 0) (cs := (Z6 .i64 b7).toArray) (cs' := (Z6 .i64 (U8 b7 b5 0)).toArray) ty3 rfl rfl hS rfl (Zs5 rfl) (by simp [Z6, N9]; omega) (Zh7 (by omega) (by omega)) ?_
 intro _ hS
 refine Z2 (X1 (Z0 ?_))
 refine W2 (b5 + 1) (by exact g9) rfl (IntWalk.i64_in _ (by omega)) rfl (Z3 (vI (b5 + 1)) rfl rfl (Z2 ?_))
 exact y1 _ _ ⟨(b5 + 1), (U8 b7 b5 0), p4, d1, Z4, hS, (by omega), b8, a5, a7, b1, b6, a9, k3, k4, k5, k6, k7, k8, i8, i9, j0, g8, j1, j2, j3, j4, rfl⟩
 refine Z7 (bF m7 rfl) ?_
 refine X7 rfl ?_
 obtain rfl := oi d1
 exact y2 _ _ ⟨b7, p4, rfl, Z4, hS, b8, a5, a7, b1, b6, a9, k3, k4, k5, k6, k7, k8, i8, i9, j0, g8, j1, j2, j3⟩
 exact ⟨0, a6.1, m3, d1, Z4, hS, (by omega), b8, a5, a7, b1, b6, a9, h6, h7, h8, h9, k1, k2, i5, rfl, rfl, rfl, g5, g6, d7, rfl, rfl⟩
 rintro _ _ ⟨b2, _, rfl, Z4, hS, b8, a5, a7, b1, b6, a9, i0, n9, k9, o0, o1, l0, m8, h0, j5, m9, n0, n1, n2⟩
 dsimp only [Ex.elim] at e0
 refine Z1 (Z0 ?_)
 refine W3 Q6 (by exact l0) (hS.get (mR mL)) rfl rfl ?_
 refine U4 (z := vA (Z6 .i64 (fun _ => 0))) (Z6 .i64 (fun _ => 0)).toArray Zk4.zero rfl hS rfl ?_
 intro p5 _ hS
 refine W4 (v := vA (Z6 .i64 a4)) (vs := (Z6 .i64 a4).toArray) (cs := (Z6 .i64 (fun _ => 0)).toArray) Q6 rfl rfl rfl hS rfl (S8 .i64 a4) rfl ?_
 intro _ hS
 refine Z2 (Z1 (Z0 (Z3 (vI a3) (by exact h0) rfl (Z3 (vI (Y4 a6.1 a3)) (by exact j5) rfl ?_))))
 refine Zk8 (IntKind.i64.wrap ((Y4 a6.1 a3) - 1)) rfl rfl rfl rfl ?_
 refine V5 Zk7 rfl rfl (by omega) (by omega) rfl ?_
 refine K6 (v := vI (IntKind.i64.wrap ((Y4 a6.1 a3) - 1))) (cs := (Z6 .i64 a4).toArray) (cs' := (Z6 .i64 (U8 a4 a3 (IntKind.i64.wrap ((Y4 a6.1 a3) - 1)))).toArray) ty3 rfl rfl hS rfl (Zs5 rfl) (by simp [Z6, N9]; omega) (Zh7 (by omega) (by omega)) ?_
 intro _ hS
 refine Z2 (Z1 ?_)
 obtain ⟨h4, q7, e0⟩ := bind_some e0
 obtain ⟨g2, q8, e0⟩ := bind_some e0
 refine W7 22 (S9 [(49, MP.mk0), mE 50 (vA (Z6 .i64 (U8 a4 a3 (IntKind.i64.wrap ((Y4 a6.1 a3) - 1))))), (51, MP.mp .i64 ((Zb4 ([] : MpT) (U8 a4 a3 (IntKind.i64.wrap ((Y4 a6.1 a3) - 1))) 1))), mE 52 (vQ c5 d2), mE 53 (vQ c5 d2), mE 54 (vQ c5 (d2 + 0)), mE 55 (c3), mE 56 (vI a3), mE 57 (vQ b9 (0 + (a3).toNat * 1)), (58, MP.mp .i64 ((Yd9 r6 a3))), (59, MP.mp .i64 (h4)), mE 60 (vQ c5 d2), mE 61 (vQ c5 d2), mE 62 (vQ c5 (d2 + 0)), mE 63 (c3), (64, MP.mk0), mE 65 (vA (Z6 .i64 b2)), (66, MP.mp .i64 ((Zb4 ([] : MpT) b2 1))), (67, MP.mp .i64 (g2)), (16, MP.mp .i64 (g2))]) [Co.fz 0 49 2 (MP.mp .i64 ((Zb4 ([] : MpT) (U8 a4 a3 (IntKind.i64.wrap ((Y4 a6.1 a3) - 1))) 1))), Co.fz 16 64 18 (MP.mp .i64 ((Zb4 ([] : MpT) b2 1)))] mixed rfl (Yg5 (ns := [(0, 49, 2, 0, 49), (16, 64, 18, 16, 64)]) rfl rfl) rfl hS (U1 rfl ?_ (U1 rfl ?_ (Yp0 rfl ?_ (U1 rfl ?_ (U1 rfl ?_ (U1 rfl ?_ (U1 rfl ?_ (U1 rfl ?_ (U1 rfl ?_ (U1 rfl ?_ (U1 rfl ?_ (U1 rfl ?_ (U1 rfl ?_ (U1 rfl ?_ (U1 rfl ?_ (U1 rfl ?_ (U1 rfl ?_ (U1 rfl ?_ (Yp0 rfl ?_ (U1 rfl ?_ (U1 rfl ?_ (U1 rfl ?_ V1)))))))))))))))))))))) ?_
 intro _ _ _ _ _ hS _ _ hcq
 refine Yh7 hS rfl ?_
 intro _ _ hS
 exact qn (.refl _) rfl hS ⟨_, rfl⟩
 exact X4 fun S B => W3 Q6 (evT (B 15 rfl) rfl) (S.get (mR mL)) rfl rfl (qz S)
 intro n5 y3 u3 y4 _ hS _ p6 hcq
 have Z4 := Sub.refl u3
 obtain ⟨l6, l7⟩ := p6 0 49 rfl rfl
 have l7 : n5 49 = Value.map (some l6) := l7
 have hS : St u3 y3 (Xi4 (n5 49) ++ (y4 ++ ([(p5, cA (Z6 .i64 (U8 a4 a3 (IntKind.i64.wrap ((Y4 a6.1 a3) - 1)))) 222)] ++ ([(i7, cA (Z6 .i64 b2) 222)] ++ ([(f4, cA (Z6 .i64 a4) 222)] ++ ([(f3, cA (Z6 .i64 a6.1) 222)] ++ (d8 ++ ([(b9, cA (N9 u6) 237)] ++ (b3 ++ L))))))))) := hS
 rw [l7] at hS
 have v1 : Q2 .i64 (Value.map (some l6)) [] [(l6, .map #[] 0)] := Q2.new l6
 have y5 : tv n5 49 = Value.map (some l6) := l7
 refine Xb8 (a := (U8 a4 a3 (IntKind.i64.wrap ((Y4 a6.1 a3) - 1)))) (m := 1) Zq8 y5 (eM (p6 1 50 rfl rfl)) rfl v1 hS ?_
 intro _ _ v2 hS
 obtain ⟨_, v3, hS, v4⟩ := v2.freeze hS
 have Z4 := Z4.trans v3
 exact Z2 ⟨_, rfl, rfl, Z4, hS, by show N1 _ _ (n5 49) _; rw [l7]; exact v4⟩
 intro y6 _ y7 _ _ hS _ _ hcq
 obtain ⟨p7, p8⟩ : ∃ v, tv y6 49 = v := ⟨_, rfl⟩
 have q9 : N1 .i64 y7 p7 ((Zb4 ([] : MpT) (U8 a4 a3 (IntKind.i64.wrap ((Y4 a6.1 a3) - 1))) 1)) := p8 ▸ (hcq 2 _ rfl rfl)
 refine Z3 (p7) p8 rfl ?_
 exact qn (.refl _) rfl hS q9
 exact X4 fun S B => Z3 (vQ c5 d2) (evT (B 0 rfl) i0) rfl (qz S)
 exact Y7 fun S V => V4 (eM (V 4 52 rfl rfl)) rfl (qz S)
 exact Y7 fun S V => Y2 L6 (eM (V 5 53 rfl rfl)) rfl (qz S)
 exact P0 fun s S V => Y0 (c3) P4 (eM (V 6 54 rfl rfl)) (S.froz _ _ (s.1 _ _ a9)) (i4 0 (show 0 < 2 by decide)) rfl (qz S)
 exact X4 fun S B => Z3 (vI a3) (evT (B 11 rfl) h0) rfl (qz S)
 exact L3 fun S B V => V5 Ww1 (evT (B 6 rfl) k9) (eM (V 8 56 rfl rfl)) (by omega) (by omega) rfl (qz S)
 intro _ _ _ _ r0 hS _ r1 hcq
 have b8 := b8.mono r0
 have r2 := RdV.at b8 (a3)
 refine Y0 (We7 u6 a3) Wv7 (eM (r1 9 57 rfl rfl)) (hS.get (o := cA (N9 u6) 237) (mR (mR (mR (mR (mR (mR mL))))))) (Wp5 (by omega) (by omega)) rfl ?_
 exact qn (.refl _) rfl hS r2
 intro _ _ v5 _ r3 hS _ l2 hcq
 have Z4 := Sub.refl v5
 have a5 := a5.mono r3
 obtain ⟨_, v6, r4⟩ := gvM (l2 3 51 rfl rfl)
 obtain ⟨_, v7, r5⟩ := gvM (l2 10 58 rfl rfl)
 refine U9 call128 (D8 v6 (eM (l2 7 55 rfl rfl)) v7) rfl (Yc6 q7 r4 a5 r5 hS) ?_
 rintro _ _ ⟨_, _, _, rfl, r7, hS, r8⟩
 refine ⟨_, rfl, ?_⟩
 have Z4 := Z4.trans r7
 obtain ⟨_, r9, hS, s2⟩ := r8.freeze hS
 have Z4 := Z4.trans r9
 exact Z2 ⟨59, _, _, rfl, rfl, Z4, hS, s2⟩
 exact X4 fun S B => Z3 (vQ c5 d2) (evT (B 0 rfl) i0) rfl (qz S)
 exact Y7 fun S V => V4 (eM (V 12 60 rfl rfl)) rfl (qz S)
 exact Y7 fun S V => Y2 L6 (eM (V 13 61 rfl rfl)) rfl (qz S)
 exact P0 fun s S V => Y0 (c3) P4 (eM (V 14 62 rfl rfl)) (S.froz _ _ (s.1 _ _ a9)) (i4 0 (show 0 < 2 by decide)) rfl (qz S)
 intro _ _ _ _ _ hS _ _ hcq
 refine Yh7 hS rfl ?_
 intro _ _ hS
 exact qn (.refl _) rfl hS ⟨_, rfl⟩
 exact X4 fun S B => W3 Q6 (evT (B 13 rfl) m9) (S.get (mR (mR mL))) rfl rfl (qz S)
 intro l3 v8 p9 v9 _ hS _ n6 hcq
 have Z4 := Sub.refl p9
 obtain ⟨j6, j7⟩ := n6 16 64 rfl rfl
 have j7 : l3 64 = Value.map (some j6) := j7
 have hS : St p9 v8 (Xi4 (l3 64) ++ (v9 ++ ([(p5, cA (Z6 .i64 (U8 a4 a3 (IntKind.i64.wrap ((Y4 a6.1 a3) - 1)))) 222)] ++ ([(i7, cA (Z6 .i64 b2) 222)] ++ ([(f4, cA (Z6 .i64 a4) 222)] ++ ([(f3, cA (Z6 .i64 a6.1) 222)] ++ (d8 ++ ([(b9, cA (N9 u6) 237)] ++ (b3 ++ L))))))))) := hS
 rw [j7] at hS
 have s3 : Q2 .i64 (Value.map (some j6)) [] [(j6, .map #[] 0)] := Q2.new j6
 have w0 : tv l3 64 = Value.map (some j6) := j7
 refine Xb8 (a := b2) (m := 1) Zq8 w0 (eM (n6 17 65 rfl rfl)) rfl s3 hS ?_
 intro _ _ s4 hS
 obtain ⟨_, s5, hS, s6⟩ := s4.freeze hS
 have Z4 := Z4.trans s5
 exact Z2 ⟨_, rfl, rfl, Z4, hS, by show N1 _ _ (l3 64) _; rw [j7]; exact s6⟩
 intro w1 _ w2 _ _ hS _ _ hcq
 obtain ⟨q1, q2⟩ : ∃ v, tv w1 64 = v := ⟨_, rfl⟩
 have s7 : N1 .i64 w2 q1 ((Zb4 ([] : MpT) b2 1)) := q2 ▸ (hcq 18 _ rfl rfl)
 refine Z3 (q1) q2 rfl ?_
 exact qn (.refl _) rfl hS s7
 intro _ _ w3 _ s8 hS _ l4 hcq
 have Z4 := Sub.refl w3
 have a5 := a5.mono s8
 obtain ⟨_, w4, s9⟩ := gvM (l4 11 59 rfl rfl)
 obtain ⟨_, w5, t0⟩ := gvM (l4 19 66 rfl rfl)
 refine U9 call128 (D8 w4 (eM (l4 15 63 rfl rfl)) w5) rfl (Yc6 q8 s9 a5 t0 hS) ?_
 rintro _ _ ⟨_, _, _, rfl, t1, hS, t4⟩
 refine ⟨_, rfl, ?_⟩
 have Z4 := Z4.trans t1
 obtain ⟨_, t5, hS, t6⟩ := t4.freeze hS
 have Z4 := Z4.trans t5
 exact Z2 ⟨67, _, _, rfl, rfl, Z4, hS, t6⟩
 intro _ _ _ _ _ hS _ t7 hcq
 obtain ⟨w6, w7, t8⟩ := gvM (t7 20 67 rfl rfl)
 refine Z5 (w6) w7 rfl ?_
 exact qn (.refl _) rfl hS t8
 intro _ w8 w9 f2 hS c6 t9 hcq
 have hS : St w9 w8 ([(p5, cA (Z6 .i64 (U8 a4 a3 (IntKind.i64.wrap ((Y4 a6.1 a3) - 1)))) 222)] ++ ([(i7, cA (Z6 .i64 b2) 222)] ++ ([(f4, cA (Z6 .i64 a4) 222)] ++ ([(f3, cA (Z6 .i64 a6.1) 222)] ++ (d8 ++ ([(b9, cA (N9 u6) 237)] ++ (b3 ++ L))))))) := hS
 have Z4 := Z4.trans f2
 have a5 := a5.mono f2
 have a7 := a7.mono f2
 have b8 := b8.mono f2
 have b1 := b1.mono f2
 have b6 := b6.mono f2
 have a9 := f2.1 _ _ a9
 have q3 := evT (c6 5 rfl) n9
 have q4 := evT (c6 8 rfl) o1
 have q5 := evT (c6 10 rfl) m8
 have q6 := evT (c6 12 rfl) j5
 obtain ⟨x0, x1, l5⟩ := gvM (t9 21 16 (by decide) rfl)
 refine Z2 (Z0 (Z3 (m1) (by exact q3) rfl (Z3 (x0) (by exact x1) rfl (Z3 (vI a8) (by exact q5) rfl (Z3 (vI a6.2) (by exact q4) rfl ?_)))))
 refine Zg4 (IntKind.i64.wrap (a8 * a6.2)) rfl rfl rfl rfl (Z3 (vI (Y4 a6.1 a3)) (by exact q6) rfl ?_)
 refine Zg4 (IntKind.i64.wrap ((IntKind.i64.wrap (a8 * a6.2)) * (Y4 a6.1 a3))) rfl rfl rfl rfl ?_
 obtain ⟨_, u0, e0⟩ := bind_some e0
 refine X3 call206 (R3 rfl) rfl (Yc4 u0  hS) ?_
 rintro _ _ _ d9 hS rfl
 have Z4 := Z4.trans d9
 have a5 := a5.mono d9
 have a7 := a7.mono d9
 have l5 := l5.mono d9
 have b8 := b8.mono d9
 have b1 := b1.mono d9
 have b6 := b6.mono d9
 have a9 := d9.1 _ _ a9
 obtain ⟨i3, u1, e0⟩ := bind_some e0
 have hS := hS.perm Wv9
 refine U9 call129 (D8 rfl rfl rfl) rfl (Yq4 u1 b1 l5 hS) ?_
 rintro _ _ ⟨x2, x3, rfl, g1, hS, u2⟩
 refine ⟨_, rfl, ?_⟩
 have Z4 := Z4.trans g1
 have a5 := a5.mono g1
 have a7 := a7.mono g1
 have b8 := b8.mono g1
 have b6 := b6.mono g1
 have a9 := g1.1 _ _ a9
 have hS := hS.perm Wv9.symm
 refine Z2 ?_
 have hS := St.dropA hS
 have hS := St.dropA hS
 exact p2 _ _ ⟨i3, x2, x3, e0, Z4, hS, u2, b8, a5, a7, b6, a9, (evT (c6 0 rfl) i0), q3, (evT (c6 6 rfl) k9), (evT (c6 7 rfl) o0), q4, (evT (c6 9 rfl) l0), q5, (evT (c6 11 rfl) h0), q6, (evT (c6 21 rfl) n0), (evT (c6 28 rfl) n1), (evT (c6 29 rfl) n2)⟩
 refine Z7 (bF m6 rfl) (Y6 ?_)
 exact p2 _ _ ⟨c0, m3, b3, c7, Z4, hS, b1, b8, a5, a7, b6, a9, h6, h7, h8, h9, k1, k2, i5, rfl, rfl, g5, g6, d7⟩
 refine Z7 (bF m4 rfl) ?_
 refine X7 rfl ?_
 obtain rfl := oi c7
 exact y0 _ _ ⟨a4, c0, m3, b3, rfl, Z4, hS, b1, b8, a5, a7, b6, a9, h6, h7, h8, g5⟩
 exact ⟨1, 0, (fun _ => 0), b4, p0, d0, c7, Z4, hS, (by omega), i2, b8, a5, a7, b6, a9, n7, k0, n8, rfl, rfl, rfl, rfl, g4, rfl, rfl⟩
 rintro _ _ ⟨e4, d4, x4, e6, rfl, Z4, hS, l9, b8, a5, a7, b6, a9, o2, o3, o4, n3⟩
 dsimp only [Ex.elim] at p1
 refine X1 ?_
 have hS := St.dropA hS
 have hS := St.dropA hS
 exact x8 _ _ ⟨f5, d4, x4, d8, e6, p1, Z4, hS, b6.drop, l9, b8, a5, a7, a9, o2, o3, o4, n3⟩
 exact ⟨a1, ([] : MpT), H6, x7, C3, d6, Z4, hS, u4, o7, b8, a5, a7, a9, rfl, rfl, rfl, rfl⟩
 rintro _ _ ⟨e1, _, f6, g3, rfl, Z4, hS, _, m0, b8, o5⟩
 dsimp only [Ex.elim] at o9
 refine Z1 (Z0 (Z3 (m1) (by exact o5) rfl (Z5 (m1) rfl rfl (Z2 ?_))))
 refine Y9 (vs := [m1]) func116 ⟨rfl, trivial⟩ ?_
 have hS := hS.perm Zb1
 have hS := St.dropMid hS
 have hS := St.dropMid hS
 obtain rfl := oi o9
 exact ⟨_, _, _, rfl, Z4, hS, m0⟩
structure N3 (H : FH) (v : Value) (vals : List Value) (rows : List (List Int)) (C0 : OL) (Cs : List OL) : Prop where
 out : X8 Zi6 22 H v vals C0
 lv : vals.length = rows.length
 lc : Cs.length = rows.length
 row : ∀ i, i < rows.length → X8 (Y5 .i64) 2 H (vals.getD i undef) (rows.getD i []) (Cs.getD i [])
theorem Zf9 {α : Type} (xs : List α) (i j : Nat) (x z : α) (h : i < xs.length) : (xs.set i x).getD j z = if j = i then x else xs.getD j z := by
 rw [List.getD_eq_getElem?_getD, List.getElem?_set]
 by_cases e : i = j
 subst e; rw [if_pos rfl, if_pos h, if_pos rfl]; rfl
 rw [if_neg e, if_neg (fun h => e h.symm), List.getD_eq_getElem?_getD]
theorem Q8 {α : Type} {xs : List α} {i : Nat} {z : α} (h : i < xs.length) : xs.getD i z = xs[i] := by
 rw [List.getD_eq_getElem?_getD, List.getElem?_eq_getElem h]; rfl
theorem Xb1 {α : Type} {xs : List α} {i : Nat} {z : α} (h : i < xs.length) : xs.getD i z ∈ xs := by rw [Q8 h]; exact List.getElem_mem h
theorem Yv0 {α : Type} : ∀ (Cs : List (List α)) (i : Nat), i < Cs.length → (Cs.flatten).Perm (Cs.getD i [] ++ (Cs.eraseIdx i).flatten)
 | [], i, h => by simp at h
 | C :: Cs, 0, _ => by simp
 | C :: Cs, i + 1, h => by
  have := Yv0 Cs i (by simpa using h)
  simp only [List.flatten_cons, List.getD_cons_succ, List.eraseIdx_cons_succ]
  exact (List.Perm.append_left C this).trans (by
   rw [← List.append_assoc, ← List.append_assoc]; exact List.Perm.append_right _ List.perm_append_comm)
theorem Wt0 {α : Type} (Cs : List (List α)) (i : Nat) (C : List α) (h : i < Cs.length) : ((Cs.set i C).flatten).Perm (C ++ (Cs.eraseIdx i).flatten) := by
 have := Yv0 (Cs.set i C) i (by simpa using h)
 rw [Zf9 _ _ _ _ _ h, if_pos rfl] at this
 rwa [show (Cs.set i C).eraseIdx i = Cs.eraseIdx i from by
  apply List.ext_getElem?
  intro k
  rw [List.getElem?_eraseIdx, List.getElem?_eraseIdx]
  split
  rw [List.getElem?_set_ne (by omega)]
  rw [List.getElem?_set_ne (by omega)]] at this
def swp {α : Type} (xs : List α) (i j : Nat) (z : α) : List α := (xs.set i (xs.getD j z)).set j (xs.getD i z)
theorem Zu5 {α : Type} (xs : List α) (i j : Nat) (z : α) : (swp xs i j z).length = xs.length := by unfold swp; simp
theorem Yi3 {α : Type} (xs : List α) (i j : Nat) (z : α) (hi : i < xs.length) (hj : j < xs.length) (k : Nat) : (swp xs i j z).getD k z = if k = j then xs.getD i z else if k = i then xs.getD j z else xs.getD k z := by
 unfold swp
 rw [Zf9 _ _ _ _ _ (by simpa using hj), Zf9 _ _ _ _ _ hi]
theorem Xr5 {α : Type} (xs : List α) (i j : Nat) (z : α) (hi : i < xs.length) (hj : j < xs.length) : (swp xs i j z).Perm xs := by
 unfold swp
 rw [Q8 hi, Q8 hj]
 exact List.set_set_perm hi hj
section
variable {H H' : FH} {v : Value} {vals : List Value} {rows : List (List Int)} {C0 : OL} {Cs : List OL} {w : World} {L L' : OL} {i : Nat}
theorem N3.mono (h : N3 H v vals rows C0 Cs) (hs : Sub H H') : N3 H' v vals rows C0 Cs := ⟨h.out.mono hs, h.lv, h.lc, fun i hi => (h.row i hi).mono hs⟩
theorem N3.inRow (h : N3 H v vals rows C0 Cs) (hi : i < rows.length) (hin : ∀ x, x ∈ Cs.flatten → x ∈ L') : ∀ x, x ∈ Cs.getD i [] → x ∈ L' :=
 fun x hx => hin x (List.mem_flatten.2 ⟨_, Xb1 (by rw [h.lc]; exact hi), hx⟩)
theorem N3.rb (h : N3 H v vals rows C0 Cs) (hi : i < rows.length) (hin : ∀ x, x ∈ Cs.flatten → x ∈ L') : Rb H L' (vals.getD i undef) (rows.getD i []) :=
 Rb.ofOwn (h.row i hi) (h.inRow hi hin)
theorem N3.one (h : N3 H v vals rows C0 Cs) (hi : i < rows.length) : (vals.getD i undef).oneCell' = true := by
 rcases h.out with ⟨_, rfl, _⟩ | ⟨b, c, cs, hv, h1, h2, h3, rfl, h5⟩
 have := h.lv; simp at this; omega
 have hv' : i < vals.length := by rw [h.lv]; exact hi
 obtain ⟨ecs, hr, _⟩ := h5 i _ (List.getElem?_eq_getElem hv')
 rw [Q8 hv']; exact hr.2
theorem Wb0 (hS : St H w (C0 ++ (Cs.flatten ++ L))) (hi : i < Cs.length) : St H w (Cs.getD i [] ++ (C0 ++ ((Cs.eraseIdx i).flatten ++ L))) := by
 refine hS.perm ?_
 have := (Yv0 Cs i hi).append_right L
 rw [List.append_assoc] at this
 exact R6.trans (this.symm.append_left C0)
theorem Wc5 {C : OL} (hS : St H w (C ++ (C0 ++ ((Cs.eraseIdx i).flatten ++ L)))) (hi : i < Cs.length) : St H w (C0 ++ ((Cs.set i C).flatten ++ L)) := by
 refine hS.perm ?_
 have := (Wt0 Cs i C hi).append_right L
 rw [List.append_assoc] at this
 exact (this.append_left C0).trans R6.symm
theorem N3.put {row : List Int} {C : OL} (h : N3 H v vals rows C0 Cs) (hi : i < rows.length) (ho : X8 (Y5 .i64) 2 H (vals.getD i undef) row C) : N3 H v vals (rows.set i row) C0 (Cs.set i C) := by
 refine ⟨h.out, by rw [List.length_set]; exact h.lv, by rw [List.length_set, List.length_set]; exact h.lc, fun j hj => ?_⟩
 rw [List.length_set] at hj
 rw [Zf9 _ _ _ _ _ hi, Zf9 _ _ _ _ _ (by rw [h.lc]; exact hi)]
 by_cases e : j = i
 subst e; rw [if_pos rfl, if_pos rfl]; exact ho
 rw [if_neg e, if_neg e]; exact h.row j hj
theorem N3.swap {k : Nat} {C : OL} (h : N3 H v vals rows C0 Cs) (hi : i < rows.length) (hk : k < rows.length) (ho : X8 Zi6 22 H v (swp vals i k undef) C) : N3 H v (swp vals i k undef) (swp rows i k []) C (swp Cs i k []) := by
 have h1 := h.lv; have h2 := h.lc
 refine ⟨ho, by rw [Zu5, Zu5]; exact h1, by rw [Zu5, Zu5]; exact h2, fun j hj => ?_⟩
 rw [Zu5] at hj
 rw [Yi3 _ _ _ _ (by omega) (by omega), Yi3 _ _ _ _ (by omega) (by omega), Yi3 _ _ _ _ (by omega) (by omega)]
 by_cases e : j = k
 subst e; rw [if_pos rfl, if_pos rfl, if_pos rfl]; exact h.row i hi
 rw [if_neg e, if_neg e, if_neg e]
 by_cases e2 : j = i
 subst e2; rw [if_pos rfl, if_pos rfl, if_pos rfl]; exact h.row k hk
 rw [if_neg e2, if_neg e2, if_neg e2]; exact h.row j hj
theorem N3.app {u : Value} {row : List Int} {C C1 : OL} (h : N3 H v vals rows C0 Cs) {v' : Value} (ho : X8 Zi6 22 H v' (vals ++ [u]) C) (hu : X8 (Y5 .i64) 2 H u row C1) : N3 H v' (vals ++ [u]) (rows ++ [row]) C (Cs ++ [C1]) := by
 have h1 := h.lv; have h2 := h.lc
 refine ⟨ho, by simp [h1], by simp [h2], fun j hj => ?_⟩
 rw [List.length_append] at hj
 simp only [List.length_singleton] at hj
 rw [List.getD_eq_getElem?_getD, List.getD_eq_getElem?_getD, List.getD_eq_getElem?_getD]
 by_cases e : j < rows.length
 rw [List.getElem?_append_left (by omega), List.getElem?_append_left (by omega), List.getElem?_append_left (by omega), ← List.getD_eq_getElem?_getD, ← List.getD_eq_getElem?_getD, ← List.getD_eq_getElem?_getD]
 exact h.row j e
 have e : j = rows.length := by omega
 subst e
 rw [List.getElem?_append_right (by omega), List.getElem?_append_right (by omega), List.getElem?_append_right (by omega)]
 rw [h1, h2, Nat.sub_self]
 exact hu
def Xh7 {α : Type} (τ : Ty α) : Ty (List α) :=
 ⟨1, fun H cs xs => ∃ v, cs = [v] ∧ Y3 τ H v xs ∧ ∃ a c, v = .slice a xs.length c ∧ xs.length ≤ c, fun ⟨_, h, _⟩ => by rw [h]; rfl, fun hs ⟨v, h, hr, hc⟩ => ⟨v, h, hr.mono hs, hc⟩,
  fun ⟨v, h, ⟨a, c, ⟨hv, _⟩, _⟩, _⟩ u hu => by rw [h] at hu; simp at hu; subst hu; subst hv; rfl⟩
theorem Y3.ofCap {α : Type} {τ : Ty α} {H : FH} {v : Value} {xs : List (List α)} (h : Y3 (Xh7 τ) H v xs) : Y3 (X2 τ) H v xs := by
 obtain ⟨a, c, hv, h⟩ := h
 refine ⟨a, c, hv, ?_⟩
 rcases h with h | ⟨b, o, cs, E, ha, hb, hc⟩
 exact .inl h
 exact .inr ⟨b, o, cs, E, ha, hb, fun i x hx => let ⟨ecs, ⟨u, h1, h2, _⟩, hj⟩ := hc i x hx; ⟨ecs, ⟨u, h1, h2⟩, hj⟩⟩
theorem X8.room {α : Type} {τ : Ty α} {E : TypeId} {H : FH} {v : Value} {xs : List α} {C : OL} (h : X8 τ E H v xs C) : ∃ a c, v = .slice a xs.length c ∧ xs.length ≤ c := by
 rcases h with ⟨rfl, rfl, _⟩ | ⟨b, c, cs, rfl, h1, _⟩
 exact ⟨none, 0, rfl, by simp⟩
 exact ⟨_, c, rfl, h1⟩
theorem Xm8 : ∀ (n : Nat) (H : FH) (Cs : List OL) (vals : List Value) (rows : List (List Int)), rows.length = n → vals.length = n → Cs.length = n → (∀ i, i < n → X8 (Y5 .i64) 2 H (vals.getD i undef) (rows.getD i []) (Cs.getD i [])) → St H w (Cs.flatten ++ L) →
 ∃ H', Sub H H' ∧ St H' w L ∧ ∀ i, i < n → Y3 (Y5 .i64) H' (vals.getD i undef) (rows.getD i [])
 | 0, H, Cs, vals, rows, _, _, hc, _, hS => ⟨H, .refl _, by
  have : Cs = [] := List.eq_nil_of_length_eq_zero hc
  subst this; exact hS, fun i hi => by omega⟩
 | n + 1, H, [], vals, rows, _, _, hc, _, hS => by simp at hc
 | n + 1, H, C :: Cs, [], rows, _, hv, _, _, hS => by simp at hv
 | n + 1, H, C :: Cs, u :: vals, [], hr, _, _, _, hS => by simp at hr
 | n + 1, H, C :: Cs, u :: vals, row :: rows, hr, hv, hc, h, hS => by
  have h0 := h 0 (by omega)
  have h0 : X8 (Y5 .i64) 2 H u row C := h0
  rw [List.flatten_cons, List.append_assoc] at hS
  obtain ⟨H1, s1, hS1, hrd⟩ := h0.freeze hS
  obtain ⟨H2, s2, hS2, hall⟩ := Xm8 n H1 Cs vals rows (by simpa using hr) (by simpa using hv) (by simpa using hc) (fun i hi => (h (i + 1) (by omega)).mono s1) hS1
  refine ⟨H2, s1.trans s2, hS2, fun i hi => ?_⟩
  cases i with
  | zero => exact hrd.mono s2
  | succ i => exact hall i (by omega)
theorem N3.freeze {b cp : Nat} {d : Nat} (h : N3 H (.slice (some ⟨b, 0, none⟩) vals.length cp) vals rows C0 Cs) (hd : d ≤ rows.length) (hS : St H w (C0 ++ (Cs.flatten ++ L))) :
 ∃ H', Sub H H' ∧ St H' w L ∧ Y3 (Xh7 (Y5 .i64)) H' (.slice (some ⟨b, 0, none⟩) d cp) (rows.take d) := by
 have hS1 := hS.swap
 obtain ⟨H1, s1, hS2, hall⟩ := Xm8 rows.length H Cs vals rows rfl h.lv h.lc h.row hS1
 have ho := h.out.mono s1
 rcases ho with ⟨h, _⟩ | ⟨b', c', cs, hv, h1, h2, h3, rfl, h5⟩
 cases h
 cases hv
 have hS3 : St H1 w ((b, .cells cs 22) :: L) := hS2
 have Z4 := Sub.add (o := .cells cs 22) hS3.none
 have hlen : (rows.take d).length = d := by rw [List.length_take]; omega
 have hlv := h.lv
 refine ⟨_, s1.trans Z4, hS3.freeze, _, cp, ⟨by rw [hlen], by rw [hlen]; simp only [maxLen] at h2; omega⟩, .inr ⟨b, 0, cs, (22, 0, 0), rfl, FH.add_self .., fun i x hx => ?_⟩⟩
 rw [List.getElem?_take] at hx
 split at hx
 rename_i hid
 have hi : i < rows.length := by omega
 have hiv : i < vals.length := by omega
 have e : x = rows.getD i [] := by rw [List.getD_eq_getElem?_getD, hx]; rfl
 subst e
 obtain ⟨ecs, ⟨rfl, _⟩, hj⟩ := h5 i _ (List.getElem?_eq_getElem hiv)
 refine ⟨[vals[i]], ⟨vals[i], rfl, ?_⟩, fun j hj' => ?_⟩
 have h1 := (hall i hi).mono Z4
 have h2 := (h.row i hi).room
 rw [Q8 hiv] at h1 h2
 exact ⟨h1, h2⟩
 have := hj j hj'
 rw [Nat.zero_add]; exact this
 cases hx
end
def Zs1 (K : Nat) (a0 : ((List Int) × (List MpT))) (a1 : Int) : Option Int := ((Zw3 K (a0.1, a0.2)).bind fun r4 => (if r4 = true then ((Zm7 K a1 0 20).bind fun r7 => (if r7 = true then ((Zl6 K (a0.1, a0.2) (IntKind.i64.wrap (a1 - 1)) (IntKind.i64.wrap (a1 + 1))).bind fun a6 => (if a6 = true then some 0 else some 3)) else some 2)) else some 1))
theorem Yz1 {a0 : ((List Int) × (List MpT))} {a1 : Int} {r : Int} (q0 : Zs1 K a0 a1 = some r) (a3 : Y3 (Y5 .i64) H s0 a0.1) (a4 : Y3 (X2 yT) H s1 a0.2) (hS : St H w L) :
 Calls prog 96 #[vA ([s0] ++ [s1]), vI a1] w (U7 (fun v G => (R.int .i64).p G v r) H L) := by
 have Z4 := Sub.refl H
 refine X0 func96 rfl ntmps96 rfl ?_
 unfold Zs1 at q0
 refine Z1 (Z0 ?_)
 refine T7 (v := vA ([s0] ++ [s1])) ([s0] ++ [s1]).toArray rfl rfl hS rfl ?_
 intro _ _ hS
 refine Z5 (vI 0) rfl rfl (Z2 (Z1 (Y8 (Z1 (Z0 ?_)))))
 refine W3 Ya1 rfl (hS.get mL) rfl rfl ?_
 obtain ⟨r4, b3, q0⟩ := bind_some q0
 refine X3 call72 (R3 rfl) rfl (Xg9 b3 a3 a4 hS) ?_
 rintro _ _ _ a7 hS rfl
 have Z4 := Z4.trans a7
 have a3 := a3.mono a7
 have a4 := a4.mono a7
 refine N8 (b := r4) rfl rfl (Z5 (vB (!r4)) rfl rfl (Z2 ?_))
 obtain ⟨a8, q0⟩ | ⟨a8, q0⟩ := ic q0
 refine Z7 (nT a8) (Z1 (Z0 (Z3 (vI a1) rfl rfl ?_)))
 obtain ⟨r7, b4, q0⟩ := bind_some q0
 refine X3 call73 (D8 rfl rfl rfl) rfl (Zo6 b4  hS) ?_
 rintro _ _ _ a9 hS rfl
 have Z4 := Z4.trans a9
 have a3 := a3.mono a9
 have a4 := a4.mono a9
 refine N8 (b := r7) rfl rfl (Z5 (vB (!r7)) rfl rfl (Z2 ?_))
 obtain ⟨b0, q0⟩ | ⟨b0, q0⟩ := ic q0
 refine Z7 (nT b0) (Z1 (Z0 ?_))
 refine W3 Ya1 rfl (hS.get mL) rfl rfl (Z3 (vI a1) rfl rfl ?_)
 refine Zk8 (IntKind.i64.wrap (a1 - 1)) rfl rfl rfl rfl (Z3 (vI a1) rfl rfl ?_)
 refine W2 (IntKind.i64.wrap (a1 + 1)) rfl rfl rfl rfl ?_
 obtain ⟨a6, b1, q0⟩ := bind_some q0
 refine X3 call74 (D8 rfl rfl rfl) rfl (Ys7 b1 a3 a4 hS) ?_
 rintro _ _ _ b2 hS rfl
 have Z4 := Z4.trans b2
 refine N8 (b := a6) rfl rfl (Z5 (vB (!a6)) rfl rfl (Z2 ?_))
 obtain ⟨a5, q0⟩ | ⟨a5, q0⟩ := ic q0
 refine Z7 (nT a5) (Y6 (X1 (Z1 (Z0 (Z5 (vI 0) rfl rfl (Z2 ?_))))))
 refine Y9 (vs := [vI 0]) func96 ⟨rfl, trivial⟩ ?_
 obtain rfl := oi q0
 exact ⟨_, _, rfl, Z4, (St.dropA hS), rfl⟩
 refine Z8 (nT (W1 a5)) (Z1 (Z0 (Z5 (vI 3) rfl rfl (Z2 ?_))))
 refine Y9 (vs := [vI 3]) func96 ⟨rfl, trivial⟩ ?_
 obtain rfl := oi q0
 exact ⟨_, _, rfl, Z4, (St.dropA hS), rfl⟩
 refine Z8 (nT (W1 b0)) (Z1 (Z0 (Z5 (vI 2) rfl rfl (Z2 ?_))))
 refine Y9 (vs := [vI 2]) func96 ⟨rfl, trivial⟩ ?_
 obtain rfl := oi q0
 exact ⟨_, _, rfl, Z4, (St.dropA hS), rfl⟩
 refine Z8 (nT (W1 a8)) (Z1 (Z0 (Z5 (vI 1) rfl rfl (Z2 ?_))))
 refine Y9 (vs := [vI 1]) func96 ⟨rfl, trivial⟩ ?_
 obtain rfl := oi q0
 exact ⟨_, _, rfl, Z4, (St.dropA hS), rfl⟩
def Zl7 (K : Nat) (a0 : ((List Int) × (List MpT))) (a1 : ((List Int) × (List MpT))) : Option Bool := ((Zo8 K a0.1 a1.1).bind fun r7 => (if r7 = true then ((Zd7 K a0.2 a1.2).bind fun a4 => (if a4 = true then some true else some false)) else some false))
theorem Yt1 {a0 : ((List Int) × (List MpT))} {a1 : ((List Int) × (List MpT))} {r : Bool} (q0 : Zl7 K a0 a1 = some r) (b1 : Y3 (Y5 .i64) H s0 a0.1) (a5 : Y3 (X2 yT) H s1 a0.2) (b2 : Y3 (Y5 .i64) H s2 a1.1) (a6 : Y3 (X2 yT) H s3 a1.2) (hS : St H w L) :
 Calls prog 20 #[vA ([s0] ++ [s1]), vA ([s2] ++ [s3])] w (U7 (fun v G => R.bool.p G v r) H L) := by
 have Z4 := Sub.refl H
 refine X0 func20 rfl ntmps20 rfl ?_
 unfold Zl7 at q0
 refine Z1 (Z0 ?_)
 refine T7 (v := vA ([s0] ++ [s1])) ([s0] ++ [s1]).toArray rfl rfl hS rfl ?_
 intro _ _ hS
 refine T7 (v := vA ([s2] ++ [s3])) ([s2] ++ [s3]).toArray rfl rfl hS rfl ?_
 intro _ _ hS
 refine Z5 (vB false) rfl rfl (Z2 (Z1 (Z1 (Z0 (Y2 L6 rfl rfl ?_)))))
 refine Y0 (s0) P4 rfl (hS.get (mR mL)) rfl rfl (Y2 L6 rfl rfl ?_)
 refine Y0 (s2) P4 rfl (hS.get mL) rfl rfl ?_
 obtain ⟨r7, b3, q0⟩ := bind_some q0
 refine X3 call19 (V2 rfl rfl) rfl (Yw5 b3 b1 b2 hS) ?_
 rintro _ _ _ a7 hS rfl
 have Z4 := Z4.trans a7
 have a5 := a5.mono a7
 have a6 := a6.mono a7
 refine N8 (b := r7) rfl rfl (Z2 ?_)
 obtain ⟨a8, q0⟩ | ⟨a8, q0⟩ := ic q0
 refine Z7 (nT a8) (Y6 (Z1 (Z1 (Z0 (Y2 Zf5 rfl rfl ?_)))))
 refine Y0 (s1) Zy9 rfl (hS.get (mR mL)) rfl rfl (Y2 Zf5 rfl rfl ?_)
 refine Y0 (s3) Zy9 rfl (hS.get mL) rfl rfl ?_
 obtain ⟨a4, a9, q0⟩ := bind_some q0
 refine X3 call32 (V2 rfl rfl) rfl (Zq6 a9 a5 a6 hS) ?_
 rintro _ _ _ b0 hS rfl
 have Z4 := Z4.trans b0
 refine N8 (b := a4) rfl rfl (Z2 ?_)
 obtain ⟨a3, q0⟩ | ⟨a3, q0⟩ := ic q0
 refine Z7 (nT a3) (Y6 (Z1 (Z0 (Z5 (vB true) rfl rfl (Z2 ?_)))))
 refine Y9 (vs := [vB true]) func20 ⟨rfl, trivial⟩ ?_
 obtain rfl := oi q0
 exact ⟨_, _, rfl, Z4, (St.dropA (St.dropA hS)), rfl⟩
 refine Z8 (nT (W1 a3)) (Z1 (Z0 (Z5 (vB false) rfl rfl (Z2 ?_))))
 refine Y9 (vs := [vB false]) func20 ⟨rfl, trivial⟩ ?_
 obtain rfl := oi q0
 exact ⟨_, _, rfl, Z4, (St.dropA (St.dropA hS)), rfl⟩
 refine Z8 (nT (W1 a8)) (Z1 (Z0 (Z5 (vB false) rfl rfl (Z2 ?_))))
 refine Y9 (vs := [vB false]) func20 ⟨rfl, trivial⟩ ?_
 obtain rfl := oi q0
 exact ⟨_, _, rfl, Z4, (St.dropA (St.dropA hS)), rfl⟩
def Za4 (K : Nat) (a0 : ((List Int) × (List MpT))) : Option ((List Int) × (List MpT)) := ((Zo5 K a0.1).bind fun a9 => ((Zq9 K a0.2).bind fun a8 => some (a9, a8)))
theorem Zn4 {a0 : ((List Int) × (List MpT))} {r : ((List Int) × (List MpT))} (q0 : Za4 K a0 = some r) (b7 : Y3 (Y5 .i64) H s0 a0.1) (b0 : Y3 (X2 yT) H s1 a0.2) (hS : St H w L) :
 Calls prog 17 #[vA ([s0] ++ [s1])] w (U7 (fun v G => Yd7 H G v r) H L) := by
 have Z4 := Sub.refl H
 refine X0 func17 rfl ntmps17 rfl ?_
 unfold Za4 at q0
 refine Z1 (Z0 ?_)
 refine T7 (v := vA ([s0] ++ [s1])) ([s0] ++ [s1]).toArray rfl rfl hS rfl ?_
 intro _ _ hS
 refine U4 (z := vA ([vN] ++ [vN])) ([vN] ++ [vN]).toArray Wu4.zero rfl hS rfl ?_
 intro _ _ hS
 refine Z2 (Z1 (Z0 ?_))
 refine U4 (z := vA ([vN] ++ [vN])) ([vN] ++ [vN]).toArray Wu4.zero rfl hS rfl ?_
 intro _ _ hS
 refine Z2 (Z1 (Z0 (Y2 Wc3 rfl rfl ?_)))
 refine Y0 (s0) P4 rfl (hS.get (mR (mR mL))) rfl rfl ?_
 obtain ⟨a9, b4, q0⟩ := bind_some q0
 refine X3 call77 (R3 rfl) rfl (Yw7 b4 b7 hS) ?_
 rintro a3 b8 _ b1 hS a1
 have b9 := a1
 have a6 : RdF (Y5 .i64) H b8 a3 a9 := Y3.mono (Ye9 Z4) a1
 have a1 := Y3.old a1
 have Z4 := Z4.trans b1
 have b0 := b0.mono b1
 refine Y2 L6 rfl rfl ?_
 refine Zd3 (v := a3) (cs := ([vN] ++ [vN]).toArray) (cs' := ([a3] ++ [vN]).toArray) P4 rfl rfl hS a1.isOne rfl (nl rfl) rfl ?_
 intro _ hS
 refine Z2 (Z1 (Z0 (Y2 Wb9 rfl rfl ?_)))
 refine Y0 (s1) Vc9 rfl (hS.get (mR (mR mL))) rfl rfl ?_
 obtain ⟨a8, b5, q0⟩ := bind_some q0
 refine X3 call69 (R3 rfl) rfl (Yz3 b5 b0 hS) ?_
 rintro a4 b3 _ a7 hS a5
 have b2 : RdN (X2 yT) H b3 a4 a8 (Zk5 [a3] ++ ([] : List Nat)) := RdN.keepX (Zw6 _) a5 Z4 (by rw [List.append_nil]; exact Zz5 _) (by rw [List.append_nil]; exact Y3.rootsIn a1)
 have b6 : RdF (X2 yT) H b3 a4 a8 := RdN.old b2
 have a5 := Y3.old b6
 have Z4 := Z4.trans a7
 have a1 := a1.mono a7
 have a6 := a6.mono a7
 refine Y2 Zf5 rfl rfl ?_
 refine Zd3 (v := a4) (cs := ([a3] ++ [vN]).toArray) (cs' := ([a3] ++ [a4]).toArray) Zy9 rfl rfl hS a5.isOne rfl (nl rfl) rfl ?_
 intro _ hS
 refine Z2 (Z1 (Z0 ?_))
 refine W3 Ya1 rfl (hS.get mL) rfl rfl ?_
 have hS := hS.perm R6
 refine W4 (v := vA ([a3] ++ [a4])) (vs := ([a3] ++ [a4]).toArray) (cs := ([vN] ++ [vN]).toArray) Ya1 rfl rfl rfl hS rfl (Yf3 (Zb5 a1.isOne) (Zb5 a5.isOne)) rfl ?_
 intro _ hS
 have hS := hS.perm R6.symm
 refine Z2 ?_
 refine Y9 (vs := [vA ([a3] ++ [a4])]) func17 ⟨⟨_, rfl, P1 Ya1 (hS.get (mR mL)) rfl⟩, trivial⟩ ?_
 obtain rfl := oi q0
 exact ⟨_, _, rfl, Z4, (St.dropA (St.dropA (St.dropA hS))), ⟨_, _, rfl, a6, b2⟩⟩
end Go.Proofs.YtabofnehiclkiaaGreat
