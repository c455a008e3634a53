/- Walks of functions: each computes its pure function, if that gives a value. -/
import Derived.Test.YtabofnehiclkiaaGreatXTy
import Derived.Test.YtabofnehiclkiaaGreatXF12
import Derived.Test.YtabofnehiclkiaaGreatXF10
import Derived.Test.YtabofnehiclkiaaGreatXF2
import Derived.Test.YtabofnehiclkiaaGreatXF13
import Derived.Test.YtabofnehiclkiaaGreatXF6
import Derived.Test.YtabofnehiclkiaaGreatXF1
import Derived.Test.YtabofnehiclkiaaGreatXF14
namespace Go.Proofs.YtabofnehiclkiaaGreat
open Go
set_option linter.unusedSimpArgs false
set_option linter.unusedVariables false
set_option maxRecDepth 100000
set_option maxHeartbeats 8000000
variable {K : Nat} {H : FH} {w : World} {L : OL} {s0 s1 s2 s3 s4 s5 s6 : Value}
def Q2 (K : Nat) (a3 : Int) : Nat → Int → A8 → Option (Ex MpT (A8))
 | 0, _, _ => none
 | k + 1, b5, b7 => (if b5 < (a3 + 1) then (if b5 < 8 then Q2 K a3 k (b5 + 1) (S6 b7 b5 0) else none) else some (.go b7))
def L9 (K : Nat) (i1 : Int → Int → A8 → MpT → Option (Ex MpT (A8 × MpT))) (a0 : ((List Int) × (List MpT))) (a8 : Int) (a3 : Int) (a4 : A8) (a6 : (A8 × Int)) (b0 : MpT) : Option (Ex MpT (A8 × MpT)) := (if a3 < (a0.1.length : Int) then (if (((rd a0.1 a3)).tmod 2) = 1 then (if (((Y5 a6.1 a3)).tmod 2) = 1 then i1 (IntKind.i64.wrap (0 - a8)) (a3 + 1) (S6 a4 a3 (Y5 a6.1 a3)) b0 else i1 a8 (a3 + 1) (S6 a4 a3 (Y5 a6.1 a3)) b0) else i1 a8 (a3 + 1) (S6 a4 a3 (Y5 a6.1 a3)) b0) else i1 a8 (a3 + 1) (S6 a4 a3 (Y5 a6.1 a3)) b0)
def T4 (K : Nat) (a0 : ((List Int) × (List MpT))) (r6 : M8) (a6 : (A8 × Int)) : Nat → Int → Int → A8 → MpT → Option (Ex MpT (A8 × MpT))
 | 0, _, _, _, _ => none
 | k + 1, a8, a3, a4, c0 => (if a3 < 8 then (if 0 < (Y5 a6.1 a3) then ((Q2 K a3 K 0 a6.1).bind (Ex.elim (fun r => some (.ret r)) (fun s => (fun (b2 : A8) => ((J8 K (F6 ([] : MpT) (S6 a4 a3 (IntKind.i64.wrap ((Y5 a6.1 a3) - 1))) 1) a0.1 (Yf4 r6 a3)).bind fun h4 => ((J8 K h4 a0.1 (F6 ([] : MpT) b2 1)).bind fun g2 => ((Zm8 K (IntKind.i64.wrap ((IntKind.i64.wrap (a8 * a6.2)) * (Y5 a6.1 a3)))).bind fun l1 => ((N0 K c0 g2 l1).bind fun i3 => L9 K (T4 K a0 r6 a6 k) a0 a8 a3 a4 a6 i3))))) s))) else L9 K (T4 K a0 r6 a6 k) a0 a8 a3 a4 a6 c0) else some (.go (a4, c0)))
def R3 (K : Nat) (a0 : ((List Int) × (List MpT))) (r6 : M8) : Nat → MpT → MpT → Option (Ex MpT (MpT))
 | 0, _, _ => none
 | k + 1, [], b4 => some (.go b4)
 | k + 1, a6 :: f5, b4 => ((T4 K a0 r6 a6 K 1 0 (fun _ => 0) b4).bind (Ex.elim (fun r => some (.ret r)) (fun s => (fun (e4 : A8) (d4 : MpT) => R3 K a0 r6 k f5 d4) s.1 s.2)))
theorem Yl2 {a0 : ((List Int) × (List MpT))} {r6 : M8} {b4 : MpT} {k : Nat} {zp zq : MpT} {o : Ex MpT (MpT)} (hp : zp.Perm zq) (q : R3 K a0 r6 k zp b4 = some o) : R3 K a0 r6 k zq b4 = some o := by
 have h2 : ∀ (i : Int) (k : Nat) (j : Int) (b : A8) e, Q2 K i k j b = some e → ∃ y, e = .go y := by
  intro i k
  induction k with
  | zero => intro j b e h; rw [Q2] at h; cases h
  | succ k ih =>
   intro j b e h
   rw [Q2] at h
   split at h
   split at h
   exact ih _ _ _ h
   cases h
   cases h; exact ⟨_, rfl⟩
 have hj : ∀ (i1 : Int → Int → A8 → MpT → Option (Ex MpT (A8 × MpT))) (a b : Int) (c : A8) (z : A8 × Int), (∀ a b c, Zt2 K (fun (x : A8) s => (x, s)) (fun s => i1 a b c s)) →
  Zt2 K (fun (x : A8) s => (x, s)) (fun s => L9 K i1 a0 a b c z s) := by
  intro i1 a b c z h
  unfold L9
  exact .ite (.ite (.ite (h _ _ _) (h _ _ _)) (h _ _ _)) (h _ _ _)
 have hl : ∀ (z : A8 × Int) (k : Nat) (a b : Int) (c : A8), Zt2 K (fun (x : A8) s => (x, s)) (fun s => T4 K a0 r6 z k a b c s) := by
  intro z k
  induction k with
  | zero => intro a b c; exact ⟨none, fun s => (show T4 K a0 r6 z 0 a b c s = none by rw [T4])⟩
  | succ k ih =>
   intro a b c
   have e : (fun s => T4 K a0 r6 z (k + 1) a b c s) = fun s => (if b < 8 then (if 0 < (Y5 z.1 b) then ((Q2 K b K 0 z.1).bind fun e => (match e with
    | .ret r => some (.ret r)
    | .go y => ((J8 K (F6 ([] : MpT) (S6 c b (IntKind.i64.wrap ((Y5 z.1 b) - 1))) 1) a0.1 (Yf4 r6 b)).bind fun h4 => ((J8 K h4 a0.1 (F6 ([] : MpT) y 1)).bind fun g2 => ((Zm8 K (IntKind.i64.wrap ((IntKind.i64.wrap (a * z.2)) * (Y5 z.1 b)))).bind fun l1 => ((N0 K s g2 l1).bind fun i3 => L9 K (T4 K a0 r6 z k) a0 a b c z i3)))))) else L9 K (T4 K a0 r6 z k) a0 a b c z s) else some (.go (c, s))) := by
    funext s
    rw [T4]
    split
    split
    cases Q2 K b K 0 z.1 with
    | none => rfl
    | some e => cases e <;> rfl
    rfl
    rfl
   rw [e]
   refine .ite (.ite ?_ (hj _ _ _ _ _ ih)) (.go (h := fun (x : A8) s => (x, s)) c)
   cases hq : Q2 K b K 0 z.1 with
   | none => exact .fail
   | some e =>
    obtain ⟨y, rfl⟩ := h2 _ _ _ _ _ hq
    simp only [Option.bind_some]
    exact .const fun h4 => .const fun g2 => .const fun l1 => .bind (Xk7 _ _) (hj _ _ _ _ _ ih)
 exact (Yh7 (K := K) (fun k zs s => R3 K a0 r6 k zs s) (by intros; rw [R3])
  (fun z => by
   obtain ⟨F, hF, hs⟩ := (hl z K 1 0 (fun _ => 0)).step (fun s => s.2) (fun _ _ => rfl)
   refine ⟨F, hF, fun k zs s => ?_⟩
   rw [R3]
   exact hs _ (R3 K a0 r6 k zs) s) hp k b4).symm.trans q
def Zl6 (K : Nat) (a0 : ((List Int) × (List MpT))) (a1 : MpT) : Option MpT := ((Zi4 K (a0.1, a0.2)).bind fun r6 => ((R3 K a0 r6 K a1 ([] : MpT)).bind (Ex.elim (fun r => some r) (fun s => (fun (e1 : MpT) => some e1) s))))
theorem Yv7 {a0 : ((List Int) × (List MpT))} {a1 : MpT} {r : MpT} (q0 : Zl6 K a0 a1 = some r) (x5 : Zn2 (Zp1 (Y9 (Y6 .i64)) (Y9 (Y9 yT))) H s0 a0) (o6 : Q9 .i64 H s1 a1) (hS : St H w L) :
 Calls Tryz.prog 116 #[s0, s1] w (Yt8 .i64 r H L) := by
 obtain ⟨c5, d2, h5, j8, _, rfl, a9, ⟨_, _, rfl, ⟨c3, rfl, a5⟩, ⟨e2, rfl, a7⟩⟩, i4⟩ := x5
 have Z3 := Sub.refl H
 refine X3 Tryz.func116 rfl Tryz.ntmps116 rfl ?_
 unfold Zl6 at q0
 refine Z2 (Z0 (Z5 (Value.map none) rfl rfl (Z1 (Z2 (Z0 ?_)))))
 refine Zk3 (k := .i64) hS rfl ?_
 intro m1 _ C3 o7 hS
 refine Z4 (vQ c5 d2) rfl rfl ?_
 obtain ⟨r6, x6, q0⟩ := bind_some q0
 refine X6 Tryz.call205 (S2 rfl) rfl (Ym1 x6 ⟨_, _, _, _, _, rfl, a9, ⟨_, _, rfl, ⟨_, rfl, a5⟩, ⟨_, rfl, a7⟩⟩, i4⟩ hS) ?_
 rintro _ H6 _ j9 hS ⟨_, rfl, ⟨u6, rfl, b8⟩⟩
 have Z3 := Z3.trans j9
 have a5 := a5.mono j9
 have a7 := a7.mono j9
 have o6 := o6.mono j9
 have o7 := o7.mono j9
 have a9 := j9.1 _ _ a9
 have y9 : RdV .i64 H6 Zr5 (fun _ => ([] : MpT)) := RdV.nil
 refine W6 (z := vA (L5 Zr5)) (L5 Zr5).toArray Wf0.zero rfl hS rfl ?_
 intro b9 _ hS
 refine Z5 (m1) rfl rfl ?_
 refine X5 (v := vA (L5 u6)) (vs := (L5 u6).toArray) (cs := (L5 Zr5).toArray) Xj1 rfl rfl rfl hS rfl (Yt9 b8) rfl ?_
 intro _ hS
 refine Z1 (Z2 (Z2 (Z0 (Z4 (s1) rfl rfl ?_))))
 refine Yk7 Zi9 rfl o6 hS rfl ?_
 intro c9 _ x7 u4 hS
 refine Z1 (Y7 ?_)
 obtain ⟨o8, d6, o9⟩ := bind_some q0
 refine W1 (id := 0) (fun k f w => ∃ (e5 : MpT) (b4 : MpT) (H1 : FH) (d3 : OL) (d0 : OL), R3 K a0 r6 k e5 b4 = some o8 ∧ Sub H H1 ∧ St H1 w (d3 ++ ([(b9, cA (L5 u6) 237)] ++ (d0 ++ L))) ∧ Zh4 .i64 H1 c9 e5 none d3 ∧ P7 .i64 m1 b4 d0 ∧ RdV .i64 H1 u6 r6 ∧ Z9 (Y6 .i64) H1 c3 a0.1 ∧ Z9 (Y9 yT) H1 e2 a0.2 ∧ H1 c5 = some (.cells h5 j8) ∧ tv f 0 = vQ c5 d2 ∧ tv f 5 = m1 ∧ tv f 6 = vP b9 ∧ tv f 21 = c9) (fun f w => ∃ (e1 : MpT) (H1 : FH) (f6 : OL) (g3 : OL), o8 = .go e1 ∧ Sub H H1 ∧ St H1 w (f6 ++ ([(b9, cA (L5 u6) 237)] ++ (g3 ++ L))) ∧ Zh4 .i64 H1 c9 ([] : MpT) none f6 ∧ P7 .i64 m1 e1 g3 ∧ RdV .i64 H1 u6 r6 ∧ tv f 5 = m1) rfl ?_ ?_ K ?_ ?_
 rintro f w ⟨e5, b4, H1, d3, d0, d6, _⟩
 rw [R3] at d6; cases d6
 rintro k _ _ x8 x9 ⟨e5, b4, p0, d3, d0, d6, Z3, hS, h1, i2, b8, a5, a7, a9, n7, k0, n8, g4⟩
 refine Z2 (Z0 ?_)
 refine Yr2 (by exact g4) h1 hS rfl ?_ ?_
 intro u5; subst u5
 rw [R3] at d6
 refine W4 (vB false) rfl rfl rfl (Z1 (Z2 (Z8 rfl ?_)))
 refine W0 rfl ?_
 obtain rfl := oi d6
 exact x9 _ _ ⟨b4, p0, d3, d0, rfl, Z3, hS, h1, i2, b8, k0⟩
 intro a6 f5 _ d8 u7 b6 hS
 replace d6 := Yl2 u7 d6
 rw [R3] at d6
 refine W4 (vB true) rfl rfl rfl (Z1 (Z2 (Y0 rfl (Y8 (Y7 (Z2 (Z0 ?_)))))))
 refine Yk5 (by exact g4) b6 hS rfl (W4 (vA (Z7 .i64 a6.1)) rfl rfl rfl (W4 (vI a6.2) rfl rfl rfl ?_))
 refine W6 (z := vA (Z7 .i64 (fun _ => 0))) (Z7 .i64 (fun _ => 0)).toArray Zr2.zero rfl hS rfl ?_
 intro f3 _ hS
 refine X5 (v := vA (Z7 .i64 a6.1)) (vs := (Z7 .i64 a6.1).toArray) (cs := (Z7 .i64 (fun _ => 0)).toArray) K2 rfl rfl rfl hS rfl (S4 .i64 a6.1) rfl ?_
 intro _ hS
 refine Z5 (vI a6.2) rfl rfl (Z1 (Z2 (Z0 ?_)))
 refine R6 (vA (Z7 .i64 (fun _ => 0))) Xh3 rfl ?_
 refine W6 (z := vA (Z7 .i64 (fun _ => 0))) (Z7 .i64 (fun _ => 0)).toArray Zr2.zero rfl hS rfl ?_
 intro f4 _ hS
 refine X5 (v := vA (Z7 .i64 (fun _ => 0))) (vs := (Z7 .i64 (fun _ => 0)).toArray) (cs := (Z7 .i64 (fun _ => 0)).toArray) K2 rfl rfl rfl hS rfl (S4 .i64 (fun _ => 0)) rfl ?_
 intro _ hS
 refine Z5 (vI 1) rfl rfl (Z1 (Z2 (Z0 ?_)))
 refine X7 K2 rfl (hS.get (mR mL)) rfl rfl (Z4 (vI 0) rfl rfl (Z1 (Y7 ?_)))
 obtain ⟨m2, c7, p1⟩ := bind_some d6
 refine W1 (id := 2) (fun k f w => ∃ (a8 : Int) (a3 : Int) (a4 : A8) (c0 : MpT) (H1 : FH) (b3 : OL), T4 K a0 r6 a6 k a8 a3 a4 c0 = some m2 ∧ Sub H H1 ∧ St H1 w ([(f4, cA (Z7 .i64 a4) 222)] ++ ([(f3, cA (Z7 .i64 a6.1) 222)] ++ (d8 ++ ([(b9, cA (L5 u6) 237)] ++ (b3 ++ L))))) ∧ 0 ≤ a3 ∧ P7 .i64 m1 c0 b3 ∧ RdV .i64 H1 u6 r6 ∧ Z9 (Y6 .i64) H1 c3 a0.1 ∧ Z9 (Y9 yT) H1 e2 a0.2 ∧ Zh4 .i64 H1 c9 f5 (some a6) d8 ∧ H1 c5 = some (.cells h5 j8) ∧ tv f 0 = vQ c5 d2 ∧ tv f 5 = m1 ∧ tv f 6 = vP b9 ∧ tv f 7 = vP f3 ∧ tv f 8 = vI a6.2 ∧ tv f 9 = vP f4 ∧ tv f 10 = vI a8 ∧ tv f 21 = c9 ∧ tv f 28 = vA (Z7 .i64 a6.1) ∧ tv f 29 = vI a3) (fun f w => ∃ (e4 : A8) (d4 : MpT) (H1 : FH) (e6 : OL), m2 = .go (e4, d4) ∧ Sub H H1 ∧ St H1 w ([(f4, cA (Z7 .i64 e4) 222)] ++ ([(f3, cA (Z7 .i64 a6.1) 222)] ++ (d8 ++ ([(b9, cA (L5 u6) 237)] ++ (e6 ++ L))))) ∧ P7 .i64 m1 d4 e6 ∧ RdV .i64 H1 u6 r6 ∧ Z9 (Y6 .i64) H1 c3 a0.1 ∧ Z9 (Y9 yT) H1 e2 a0.2 ∧ Zh4 .i64 H1 c9 f5 (some a6) d8 ∧ H1 c5 = some (.cells h5 j8) ∧ tv f 0 = vQ c5 d2 ∧ tv f 5 = m1 ∧ tv f 6 = vP b9 ∧ tv f 21 = c9) rfl ?_ ?_ K ?_ ?_
 rintro f w ⟨a8, a3, a4, c0, H1, b3, c7, _⟩
 rw [T4] at c7; cases c7
 rintro k _ _ n4 y0 ⟨a8, a3, a4, c0, m3, b3, c7, Z3, hS, _, b1, b8, a5, a7, b6, a9, h6, h7, h8, h9, k1, k2, i5, g5, g6, d7⟩
 rw [T4] at c7
 refine Z2 (Z0 ?_)
 refine V5 (k := .i64) (a := a3) (b := 8) (by exact d7) rfl rfl (Z1 (Z2 ?_))
 obtain ⟨m4, c7⟩ | ⟨m4, c7⟩ := ic c7
 refine Y0 (bT m4 rfl) (Y8 (Z2 (Y7 (Z2 (Z0 (Z4 (vI a3) (by exact d7) rfl ?_))))))
 refine Yo1 (vI (Y5 a6.1 a3)) Zm2 (by exact g6) (by exact d7) (by omega) (by omega) (Ym2 (by omega) (by omega)) rfl (Z5 (vI a3) rfl rfl (Z5 (vI (Y5 a6.1 a3)) rfl rfl (Z1 (Z2 (Z2 (Z0 (Z4 (vI (Y5 a6.1 a3)) rfl rfl ?_)))))))
 refine Zi5 (k := .i64) (a := (Y5 a6.1 a3)) (b := 0) rfl rfl rfl (Z1 ?_)
 refine Zb0 (fun f w => ∃ (b0 : MpT) (H1 : FH) (c1 : OL), L9 K (T4 K a0 r6 a6 k) a0 a8 a3 a4 a6 b0 = some m2 ∧ Sub H H1 ∧ St H1 w ([(f4, cA (Z7 .i64 a4) 222)] ++ ([(f3, cA (Z7 .i64 a6.1) 222)] ++ (d8 ++ ([(b9, cA (L5 u6) 237)] ++ (c1 ++ L))))) ∧ P7 .i64 m1 b0 c1 ∧ RdV .i64 H1 u6 r6 ∧ Z9 (Y6 .i64) H1 c3 a0.1 ∧ Z9 (Y9 yT) H1 e2 a0.2 ∧ Zh4 .i64 H1 c9 f5 (some a6) d8 ∧ H1 c5 = some (.cells h5 j8) ∧ tv f 0 = vQ c5 d2 ∧ tv f 5 = m1 ∧ tv f 6 = vP b9 ∧ tv f 7 = vP f3 ∧ tv f 8 = vI a6.2 ∧ tv f 9 = vP f4 ∧ tv f 10 = vI a8 ∧ tv f 11 = vI a3 ∧ tv f 12 = vI (Y5 a6.1 a3) ∧ tv f 21 = c9 ∧ tv f 28 = vA (Z7 .i64 a6.1) ∧ tv f 29 = vI a3) ?_ ?_
 rintro _ _ ⟨b0, h3, c1, c4, Z3, hS, c8, b8, a5, a7, b6, a9, d5, f7, f8, f9, g0, e3, e7, g7, i6, e8, e9, f0⟩
 unfold L9 at c4
 refine Z2 (Z0 (Z4 (vI a3) (by exact g7) rfl (Z4 (vI (Y5 a6.1 a3)) (by exact i6) rfl ?_)))
 refine V2 Zm2 (by exact e3) rfl (by omega) (by omega) rfl ?_
 refine Zb1 (v := vI (Y5 a6.1 a3)) (cs := (Z7 .i64 a4).toArray) (cs' := (Z7 .i64 (S6 a4 a3 (Y5 a6.1 a3))).toArray) ty3 rfl rfl hS rfl (Yb6 rfl) (by simp [Z7, L5]; omega) (Zj1 (by omega) (by omega)) ?_
 intro _ hS
 refine Z1 (Z2 (Z0 (Z4 (vI a3) (by exact g7) rfl (Z4 (vQ c5 d2) (by exact d5) rfl (R9 rfl rfl (Y2 R4 rfl rfl ?_))))))
 refine Y3 (c3) M9 rfl (hS.froz _ _ a9) (i4 0 (show 0 < 2 by decide)) rfl ?_
 have y8 := a5.bound
 refine W7 Q0 rfl a5 rfl ?_
 refine V5 (k := .i64) (a := a3) (b := (a0.1.length : Int)) rfl rfl rfl (Z4 (vB (decide (a3 < (a0.1.length : Int)))) rfl rfl ?_)
 obtain ⟨c2, c4⟩ | ⟨c2, c4⟩ := ic c4
 refine Y4 rfl rfl (bT c2 rfl) (Z4 (vQ c5 d2) (by exact d5) rfl ?_)
 refine Y4 rfl rfl (bT c2 rfl) (R9 rfl rfl ?_)
 refine Y4 rfl rfl (bT c2 rfl) (Y2 R4 rfl rfl ?_)
 refine Y4 rfl rfl (bT c2 rfl) ?_
 refine Y3 (c3) M9 rfl (hS.froz _ _ a9) (i4 0 (show 0 < 2 by decide)) rfl ?_
 refine Y4 rfl rfl (bT c2 rfl) (Z4 (vI a3) (by exact g7) rfl ?_)
 obtain ⟨_, _, _, _, _, u8, u9, rfl, v0⟩ := a5.elem (i := a3) (by omega) (by omega)
 refine Y4 rfl rfl (bT c2 rfl) ?_
 refine X9 Q0 rfl rfl u8 rfl (by omega) (by omega) rfl ?_
 refine Y4 rfl rfl (bT c2 rfl) ?_
 refine Y3 (vI (rd a0.1 a3)) ty2 rfl (hS.froz _ _ u9) (v0 0 (show 0 < 1 by decide)) rfl ?_
 refine Y4 rfl rfl (bT c2 rfl) ?_
 refine Zk7 (((rd a0.1 a3)).tmod 2) rfl rfl (by decide) rfl rfl ?_
 refine Y4 rfl rfl (bT c2 rfl) ?_
 refine Zc2 (k := .i64) (a := (((rd a0.1 a3)).tmod 2)) (b := 1) rfl rfl rfl ?_
 refine V0 (t := true) (vB (decide ((((rd a0.1 a3)).tmod 2) = 1))) (bT c2 rfl) ((if_pos rfl).trans rfl) rfl (Z4 (vB (decide ((((rd a0.1 a3)).tmod 2) = 1))) rfl rfl ?_)
 obtain ⟨f1, c4⟩ | ⟨f1, c4⟩ := ic c4
 refine Y4 rfl rfl (bT f1 rfl) (Z4 (vI (Y5 a6.1 a3)) (by exact i6) rfl ?_)
 refine Y4 rfl rfl (bT f1 rfl) ?_
 refine Zk7 (((Y5 a6.1 a3)).tmod 2) rfl rfl (by decide) rfl rfl ?_
 refine Y4 rfl rfl (bT f1 rfl) ?_
 refine Zc2 (k := .i64) (a := (((Y5 a6.1 a3)).tmod 2)) (b := 1) rfl rfl rfl ?_
 refine V0 (t := true) (vB (decide ((((Y5 a6.1 a3)).tmod 2) = 1))) (bT f1 rfl) ((if_pos rfl).trans rfl) rfl (Z1 ?_)
 obtain ⟨m5, c4⟩ | ⟨m5, c4⟩ := ic c4
 refine Y0 (bT m5 rfl) (Z0 (Z4 (vI a8) (by exact e7) rfl ?_))
 refine Xj6 (IntKind.i64.wrap (0 - a8)) rfl rfl rfl (Z5 (vI (IntKind.i64.wrap (0 - a8))) rfl rfl (Z1 (X4 (Z0 ?_))))
 refine W8 (a3 + 1) (by exact f0) rfl (IntWalk.i64_in _ (by omega)) rfl (Z4 (vI (a3 + 1)) rfl rfl (Z1 ?_))
 exact n4 _ _ ⟨(IntKind.i64.wrap (0 - a8)), (a3 + 1), (S6 a4 a3 (Y5 a6.1 a3)), b0, h3, c1, c4, Z3, hS, (by omega), c8, b8, a5, a7, b6, a9, d5, f7, f8, f9, g0, e3, rfl, e8, e9, rfl⟩
 refine Z8 (bF m5 rfl) (Y8 (X4 (Z0 ?_)))
 refine W8 (a3 + 1) (by exact f0) rfl (IntWalk.i64_in _ (by omega)) rfl (Z4 (vI (a3 + 1)) rfl rfl (Z1 ?_))
 exact n4 _ _ ⟨a8, (a3 + 1), (S6 a4 a3 (Y5 a6.1 a3)), b0, h3, c1, c4, Z3, hS, (by omega), c8, b8, a5, a7, b6, a9, d5, f7, f8, f9, g0, e3, e7, e8, e9, rfl⟩
 refine Y1 rfl rfl (bF f1 rfl) rfl rfl rfl (Y1 rfl rfl (bF f1 rfl) rfl rfl rfl (Y1 rfl rfl (bF f1 rfl) rfl rfl rfl ?_))
 refine V0 (t := false) (vB false) (bF f1 rfl) ((if_neg Bool.false_ne_true).trans rfl) rfl (Z1 (Z8 rfl (Y8 (X4 (Z0 ?_)))))
 refine W8 (a3 + 1) (by exact f0) rfl (IntWalk.i64_in _ (by omega)) rfl (Z4 (vI (a3 + 1)) rfl rfl (Z1 ?_))
 exact n4 _ _ ⟨a8, (a3 + 1), (S6 a4 a3 (Y5 a6.1 a3)), b0, h3, c1, c4, Z3, hS, (by omega), c8, b8, a5, a7, b6, a9, d5, f7, f8, f9, g0, e3, e7, e8, e9, rfl⟩
 refine Y1 rfl rfl (bF c2 rfl) rfl rfl rfl (Y1 rfl rfl (bF c2 rfl) rfl rfl rfl (Y1 rfl rfl (bF c2 rfl) rfl rfl rfl (Y1 rfl rfl (bF c2 rfl) rfl rfl rfl (Y1 rfl rfl (bF c2 rfl) rfl rfl rfl (Y1 rfl rfl (bF c2 rfl) rfl rfl rfl (Y1 rfl rfl (bF c2 rfl) rfl rfl rfl (Y1 rfl rfl (bF c2 rfl) rfl rfl rfl (Y1 rfl rfl (bF c2 rfl) rfl rfl rfl ?_))))))))
 refine V0 (t := false) (vB false) (bF c2 rfl) ((if_neg Bool.false_ne_true).trans rfl) rfl (Z4 (vB false) rfl rfl (Y1 rfl rfl rfl rfl rfl rfl (Y1 rfl rfl rfl rfl rfl rfl (Y1 rfl rfl rfl rfl rfl rfl ?_))))
 refine V0 (t := false) (vB false) rfl ((if_neg Bool.false_ne_true).trans rfl) rfl (Z1 (Z8 rfl (Y8 (X4 (Z0 ?_)))))
 refine W8 (a3 + 1) (by exact f0) rfl (IntWalk.i64_in _ (by omega)) rfl (Z4 (vI (a3 + 1)) rfl rfl (Z1 ?_))
 exact n4 _ _ ⟨a8, (a3 + 1), (S6 a4 a3 (Y5 a6.1 a3)), b0, h3, c1, c4, Z3, hS, (by omega), c8, b8, a5, a7, b6, a9, d5, f7, f8, f9, g0, e3, e7, e8, e9, rfl⟩
 intro p2
 obtain ⟨m6, c7⟩ | ⟨m6, c7⟩ := ic c7
 refine Y0 (bT m6 rfl) (Z2 (Z0 ?_))
 refine X7 K2 (by exact h9) (hS.get (mR mL)) rfl rfl ?_
 refine W6 (z := vA (Z7 .i64 (fun _ => 0))) (Z7 .i64 (fun _ => 0)).toArray Zr2.zero rfl hS rfl ?_
 intro i7 _ hS
 refine X5 (v := vA (Z7 .i64 a6.1)) (vs := (Z7 .i64 a6.1).toArray) (cs := (Z7 .i64 (fun _ => 0)).toArray) K2 rfl rfl rfl hS rfl (S4 .i64 a6.1) rfl ?_
 intro _ hS
 refine Z1 (Z2 (Z2 (Z0 (Z4 (vI a3) rfl rfl ?_))))
 refine W8 (a3 + 1) rfl rfl (IntWalk.i64_in _ (by omega)) rfl (Z4 (vI 0) rfl rfl (Z1 (Y7 ?_)))
 obtain ⟨p3, d1, e0⟩ := bind_some c7
 refine W1 (id := 4) (fun k f w => ∃ (b5 : Int) (b7 : A8) (H1 : FH), Q2 K a3 k b5 b7 = some p3 ∧ Sub H H1 ∧ St H1 w ([(i7, cA (Z7 .i64 b7) 222)] ++ ([(f4, cA (Z7 .i64 a4) 222)] ++ ([(f3, cA (Z7 .i64 a6.1) 222)] ++ (d8 ++ ([(b9, cA (L5 u6) 237)] ++ (b3 ++ L)))))) ∧ 0 ≤ b5 ∧ RdV .i64 H1 u6 r6 ∧ Z9 (Y6 .i64) H1 c3 a0.1 ∧ Z9 (Y9 yT) H1 e2 a0.2 ∧ P7 .i64 m1 c0 b3 ∧ Zh4 .i64 H1 c9 f5 (some a6) d8 ∧ H1 c5 = some (.cells h5 j8) ∧ tv f 0 = vQ c5 d2 ∧ tv f 5 = m1 ∧ tv f 6 = vP b9 ∧ tv f 7 = vP f3 ∧ tv f 8 = vI a6.2 ∧ tv f 9 = vP f4 ∧ tv f 10 = vI a8 ∧ tv f 11 = vI a3 ∧ tv f 12 = vI (Y5 a6.1 a3) ∧ tv f 13 = vP i7 ∧ tv f 21 = c9 ∧ tv f 28 = vA (Z7 .i64 a6.1) ∧ tv f 29 = vI a3 ∧ tv f 37 = vI (a3 + 1) ∧ tv f 38 = vI b5) (fun f w => ∃ (b2 : A8) (H1 : FH), p3 = .go b2 ∧ Sub H H1 ∧ St H1 w ([(i7, cA (Z7 .i64 b2) 222)] ++ ([(f4, cA (Z7 .i64 a4) 222)] ++ ([(f3, cA (Z7 .i64 a6.1) 222)] ++ (d8 ++ ([(b9, cA (L5 u6) 237)] ++ (b3 ++ L)))))) ∧ RdV .i64 H1 u6 r6 ∧ Z9 (Y6 .i64) H1 c3 a0.1 ∧ Z9 (Y9 yT) H1 e2 a0.2 ∧ P7 .i64 m1 c0 b3 ∧ Zh4 .i64 H1 c9 f5 (some a6) d8 ∧ H1 c5 = some (.cells h5 j8) ∧ tv f 0 = vQ c5 d2 ∧ tv f 5 = m1 ∧ tv f 6 = vP b9 ∧ tv f 7 = vP f3 ∧ tv f 8 = vI a6.2 ∧ tv f 9 = vP f4 ∧ tv f 10 = vI a8 ∧ tv f 11 = vI a3 ∧ tv f 12 = vI (Y5 a6.1 a3) ∧ tv f 13 = vP i7 ∧ tv f 21 = c9 ∧ tv f 28 = vA (Z7 .i64 a6.1) ∧ tv f 29 = vI a3) rfl ?_ ?_ K ?_ ?_
 rintro f w ⟨b5, b7, H1, d1, _⟩
 rw [Q2] at d1; cases d1
 rintro k _ _ y1 y2 ⟨b5, b7, p4, d1, Z3, hS, _, b8, a5, a7, b1, b6, a9, k3, k4, k5, k6, k7, k8, i8, i9, j0, g8, j1, j2, j3, j4, g9⟩
 rw [Q2] at d1
 refine Z2 (Z0 ?_)
 refine V5 (k := .i64) (a := b5) (b := (a3 + 1)) (by exact g9) (by exact j4) rfl (Z1 (Z2 ?_))
 obtain ⟨m7, d1⟩ | ⟨m7, d1⟩ := ic d1
 refine Y0 (bT m7 rfl) (Y8 (Z2 (Y7 (Z2 (Z0 (Z4 (vI b5) (by exact g9) rfl (Z5 (vI b5) rfl rfl (Z1 (Z0 (Z4 (vI b5) rfl rfl ?_))))))))))
 obtain ⟨_, d1⟩ := gd d1
 refine V2 Zm2 (by exact g8) rfl (by omega) (by omega) rfl ?_
 refine Zb1 (v := vI 0) (cs := (Z7 .i64 b7).toArray) (cs' := (Z7 .i64 (S6 b7 b5 0)).toArray) ty3 rfl rfl hS rfl (Yb6 rfl) (by simp [Z7, L5]; omega) (Zj1 (by omega) (by omega)) ?_
 intro _ hS
 refine Z1 (X4 (Z0 ?_))
 refine W8 (b5 + 1) (by exact g9) rfl (IntWalk.i64_in _ (by omega)) rfl (Z4 (vI (b5 + 1)) rfl rfl (Z1 ?_))
 exact y1 _ _ ⟨(b5 + 1), (S6 b7 b5 0), p4, d1, Z3, hS, (by omega), b8, a5, a7, b1, b6, a9, k3, k4, k5, k6, k7, k8, i8, i9, j0, g8, j1, j2, j3, j4, rfl⟩
 refine Z8 (bF m7 rfl) ?_
 refine W0 rfl ?_
 obtain rfl := oi d1
 exact y2 _ _ ⟨b7, p4, rfl, Z3, hS, b8, a5, a7, b1, b6, a9, k3, k4, k5, k6, k7, k8, i8, i9, j0, g8, j1, j2, j3⟩
 exact ⟨0, a6.1, m3, d1, Z3, hS, (by omega), b8, a5, a7, b1, b6, a9, h6, h7, h8, h9, k1, k2, i5, rfl, rfl, rfl, g5, g6, d7, rfl, rfl⟩
 rintro _ _ ⟨b2, _, rfl, Z3, hS, b8, a5, a7, b1, b6, a9, i0, n9, k9, o0, o1, l0, m8, h0, j5, m9, n0, n1, n2⟩
 dsimp only [Ex.elim] at e0
 refine Z2 (Z0 ?_)
 refine X7 K2 (by exact l0) (hS.get (mR mL)) rfl rfl ?_
 refine W6 (z := vA (Z7 .i64 (fun _ => 0))) (Z7 .i64 (fun _ => 0)).toArray Zr2.zero rfl hS rfl ?_
 intro p5 _ hS
 refine X5 (v := vA (Z7 .i64 a4)) (vs := (Z7 .i64 a4).toArray) (cs := (Z7 .i64 (fun _ => 0)).toArray) K2 rfl rfl rfl hS rfl (S4 .i64 a4) rfl ?_
 intro _ hS
 refine Z1 (Z2 (Z0 (Z4 (vI a3) (by exact h0) rfl (Z4 (vI (Y5 a6.1 a3)) (by exact j5) rfl ?_))))
 refine Yg5 (IntKind.i64.wrap ((Y5 a6.1 a3) - 1)) rfl rfl rfl rfl ?_
 refine V2 Zm2 rfl rfl (by omega) (by omega) rfl ?_
 refine Zb1 (v := vI (IntKind.i64.wrap ((Y5 a6.1 a3) - 1))) (cs := (Z7 .i64 a4).toArray) (cs' := (Z7 .i64 (S6 a4 a3 (IntKind.i64.wrap ((Y5 a6.1 a3) - 1)))).toArray) ty3 rfl rfl hS rfl (Yb6 rfl) (by simp [Z7, L5]; omega) (Zj1 (by omega) (by omega)) ?_
 intro _ hS
 refine Z1 (Z2 ?_)
 obtain ⟨h4, q7, e0⟩ := bind_some e0
 obtain ⟨g2, q8, e0⟩ := bind_some e0
 refine U1 22 (P0 [(49, MP.mk0), mE 50 (vA (Z7 .i64 (S6 a4 a3 (IntKind.i64.wrap ((Y5 a6.1 a3) - 1))))), (51, MP.mp .i64 ((F6 ([] : MpT) (S6 a4 a3 (IntKind.i64.wrap ((Y5 a6.1 a3) - 1))) 1))), mE 52 (vQ c5 d2), mE 53 (vQ c5 d2), mE 54 (vQ c5 (d2 + 0)), mE 55 (c3), mE 56 (vI a3), mE 57 (vQ b9 (0 + (a3).toNat * 1)), (58, MP.mp .i64 ((Yf4 r6 a3))), (59, MP.mp .i64 (h4)), mE 60 (vQ c5 d2), mE 61 (vQ c5 d2), mE 62 (vQ c5 (d2 + 0)), mE 63 (c3), (64, MP.mk0), mE 65 (vA (Z7 .i64 b2)), (66, MP.mp .i64 ((F6 ([] : MpT) b2 1))), (67, MP.mp .i64 (g2)), (16, MP.mp .i64 (g2))]) [Co.fz 0 49 2 (MP.mp .i64 ((F6 ([] : MpT) (S6 a4 a3 (IntKind.i64.wrap ((Y5 a6.1 a3) - 1))) 1))), Co.fz 16 64 18 (MP.mp .i64 ((F6 ([] : MpT) b2 1)))] mixed rfl (Yh3 (ns := [(0, 49, 2, 0, 49), (16, 64, 18, 16, 64)]) rfl rfl) rfl hS (Z6 rfl ?_ (Z6 rfl ?_ (Xa6 rfl ?_ (Z6 rfl ?_ (Z6 rfl ?_ (Z6 rfl ?_ (Z6 rfl ?_ (Z6 rfl ?_ (Z6 rfl ?_ (Z6 rfl ?_ (Z6 rfl ?_ (Z6 rfl ?_ (Z6 rfl ?_ (Z6 rfl ?_ (Z6 rfl ?_ (Z6 rfl ?_ (Z6 rfl ?_ (Z6 rfl ?_ (Xa6 rfl ?_ (Z6 rfl ?_ (Z6 rfl ?_ (Z6 rfl ?_ U7)))))))))))))))))))))) ?_
 intro _ _ _ _ _ hS _ _ hcq
 refine Ye0 hS rfl ?_
 intro _ _ hS
 exact qn (.refl _) rfl hS ⟨_, rfl⟩
 exact W5 fun S B => X7 K2 (evT (B 15 rfl) rfl) (S.get (mR mL)) rfl rfl (qz S)
 intro n5 y3 u3 y4 _ hS _ p6 hcq
 have Z3 := Sub.refl u3
 obtain ⟨l6, l7⟩ := p6 0 49 rfl rfl
 have l7 : n5 49 = Value.map (some l6) := l7
 have hS : St u3 y3 (Xx1 (n5 49) ++ (y4 ++ ([(p5, cA (Z7 .i64 (S6 a4 a3 (IntKind.i64.wrap ((Y5 a6.1 a3) - 1)))) 222)] ++ ([(i7, cA (Z7 .i64 b2) 222)] ++ ([(f4, cA (Z7 .i64 a4) 222)] ++ ([(f3, cA (Z7 .i64 a6.1) 222)] ++ (d8 ++ ([(b9, cA (L5 u6) 237)] ++ (b3 ++ L))))))))) := hS
 rw [l7] at hS
 have v1 : P7 .i64 (Value.map (some l6)) [] [(l6, .map #[] 0)] := P7.new l6
 have y5 : tv n5 49 = Value.map (some l6) := l7
 refine Yb9 (a := (S6 a4 a3 (IntKind.i64.wrap ((Y5 a6.1 a3) - 1)))) (m := 1) Zi9 y5 (eM (p6 1 50 rfl rfl)) rfl v1 hS ?_
 intro _ _ v2 hS
 obtain ⟨_, v3, hS, v4⟩ := v2.freeze hS
 have Z3 := Z3.trans v3
 exact Z1 ⟨_, rfl, rfl, Z3, hS, by show Q9 _ _ (n5 49) _; rw [l7]; exact v4⟩
 intro y6 _ y7 _ _ hS _ _ hcq
 obtain ⟨p7, p8⟩ : ∃ v, tv y6 49 = v := ⟨_, rfl⟩
 have q9 : Q9 .i64 y7 p7 ((F6 ([] : MpT) (S6 a4 a3 (IntKind.i64.wrap ((Y5 a6.1 a3) - 1))) 1)) := p8 ▸ (hcq 2 _ rfl rfl)
 refine Z4 (p7) p8 rfl ?_
 exact qn (.refl _) rfl hS q9
 exact W5 fun S B => Z4 (vQ c5 d2) (evT (B 0 rfl) i0) rfl (qz S)
 exact X2 fun S V => R9 (eM (V 4 52 rfl rfl)) rfl (qz S)
 exact X2 fun S V => Y2 R4 (eM (V 5 53 rfl rfl)) rfl (qz S)
 exact E6 fun s S V => Y3 (c3) M9 (eM (V 6 54 rfl rfl)) (S.froz _ _ (s.1 _ _ a9)) (i4 0 (show 0 < 2 by decide)) rfl (qz S)
 exact W5 fun S B => Z4 (vI a3) (evT (B 11 rfl) h0) rfl (qz S)
 exact G4 fun S B V => V2 Wt6 (evT (B 6 rfl) k9) (eM (V 8 56 rfl rfl)) (by omega) (by omega) rfl (qz S)
 intro _ _ _ _ r0 hS _ r1 hcq
 have b8 := b8.mono r0
 have r2 := RdV.at b8 (a3)
 refine Y3 (Wf7 u6 a3) Xi8 (eM (r1 9 57 rfl rfl)) (hS.get (o := cA (L5 u6) 237) (mR (mR (mR (mR (mR (mR mL))))))) (Wo2 (by omega) (by omega)) rfl ?_
 exact qn (.refl _) rfl hS r2
 intro _ _ v5 _ r3 hS _ l2 hcq
 have Z3 := Sub.refl v5
 have a5 := a5.mono r3
 obtain ⟨_, v6, r4⟩ := gvM (l2 3 51 rfl rfl)
 obtain ⟨_, v7, r5⟩ := gvM (l2 10 58 rfl rfl)
 refine T5 Tryz.call128 (G7 v6 (eM (l2 7 55 rfl rfl)) v7) rfl (Zq9 q7 r4 a5 r5 hS) ?_
 rintro _ _ ⟨_, _, _, rfl, r7, hS, r8⟩
 refine ⟨_, rfl, ?_⟩
 have Z3 := Z3.trans r7
 obtain ⟨_, r9, hS, s2⟩ := r8.freeze hS
 have Z3 := Z3.trans r9
 exact Z1 ⟨59, _, _, rfl, rfl, Z3, hS, s2⟩
 exact W5 fun S B => Z4 (vQ c5 d2) (evT (B 0 rfl) i0) rfl (qz S)
 exact X2 fun S V => R9 (eM (V 12 60 rfl rfl)) rfl (qz S)
 exact X2 fun S V => Y2 R4 (eM (V 13 61 rfl rfl)) rfl (qz S)
 exact E6 fun s S V => Y3 (c3) M9 (eM (V 14 62 rfl rfl)) (S.froz _ _ (s.1 _ _ a9)) (i4 0 (show 0 < 2 by decide)) rfl (qz S)
 intro _ _ _ _ _ hS _ _ hcq
 refine Ye0 hS rfl ?_
 intro _ _ hS
 exact qn (.refl _) rfl hS ⟨_, rfl⟩
 exact W5 fun S B => X7 K2 (evT (B 13 rfl) m9) (S.get (mR (mR mL))) rfl rfl (qz S)
 intro l3 v8 p9 v9 _ hS _ n6 hcq
 have Z3 := Sub.refl p9
 obtain ⟨j6, j7⟩ := n6 16 64 rfl rfl
 have j7 : l3 64 = Value.map (some j6) := j7
 have hS : St p9 v8 (Xx1 (l3 64) ++ (v9 ++ ([(p5, cA (Z7 .i64 (S6 a4 a3 (IntKind.i64.wrap ((Y5 a6.1 a3) - 1)))) 222)] ++ ([(i7, cA (Z7 .i64 b2) 222)] ++ ([(f4, cA (Z7 .i64 a4) 222)] ++ ([(f3, cA (Z7 .i64 a6.1) 222)] ++ (d8 ++ ([(b9, cA (L5 u6) 237)] ++ (b3 ++ L))))))))) := hS
 rw [j7] at hS
 have s3 : P7 .i64 (Value.map (some j6)) [] [(j6, .map #[] 0)] := P7.new j6
 have w0 : tv l3 64 = Value.map (some j6) := j7
 refine Yb9 (a := b2) (m := 1) Zi9 w0 (eM (n6 17 65 rfl rfl)) rfl s3 hS ?_
 intro _ _ s4 hS
 obtain ⟨_, s5, hS, s6⟩ := s4.freeze hS
 have Z3 := Z3.trans s5
 exact Z1 ⟨_, rfl, rfl, Z3, hS, by show Q9 _ _ (l3 64) _; rw [j7]; exact s6⟩
 intro w1 _ w2 _ _ hS _ _ hcq
 obtain ⟨q1, q2⟩ : ∃ v, tv w1 64 = v := ⟨_, rfl⟩
 have s7 : Q9 .i64 w2 q1 ((F6 ([] : MpT) b2 1)) := q2 ▸ (hcq 18 _ rfl rfl)
 refine Z4 (q1) q2 rfl ?_
 exact qn (.refl _) rfl hS s7
 intro _ _ w3 _ s8 hS _ l4 hcq
 have Z3 := Sub.refl w3
 have a5 := a5.mono s8
 obtain ⟨_, w4, s9⟩ := gvM (l4 11 59 rfl rfl)
 obtain ⟨_, w5, t0⟩ := gvM (l4 19 66 rfl rfl)
 refine T5 Tryz.call128 (G7 w4 (eM (l4 15 63 rfl rfl)) w5) rfl (Zq9 q8 s9 a5 t0 hS) ?_
 rintro _ _ ⟨_, _, _, rfl, t1, hS, t4⟩
 refine ⟨_, rfl, ?_⟩
 have Z3 := Z3.trans t1
 obtain ⟨_, t5, hS, t6⟩ := t4.freeze hS
 have Z3 := Z3.trans t5
 exact Z1 ⟨67, _, _, rfl, rfl, Z3, hS, t6⟩
 intro _ _ _ _ _ hS _ t7 hcq
 obtain ⟨w6, w7, t8⟩ := gvM (t7 20 67 rfl rfl)
 refine Z5 (w6) w7 rfl ?_
 exact qn (.refl _) rfl hS t8
 intro _ w8 w9 f2 hS c6 t9 hcq
 have hS : St w9 w8 ([(p5, cA (Z7 .i64 (S6 a4 a3 (IntKind.i64.wrap ((Y5 a6.1 a3) - 1)))) 222)] ++ ([(i7, cA (Z7 .i64 b2) 222)] ++ ([(f4, cA (Z7 .i64 a4) 222)] ++ ([(f3, cA (Z7 .i64 a6.1) 222)] ++ (d8 ++ ([(b9, cA (L5 u6) 237)] ++ (b3 ++ L))))))) := hS
 have Z3 := Z3.trans f2
 have a5 := a5.mono f2
 have a7 := a7.mono f2
 have b8 := b8.mono f2
 have b1 := b1.mono f2
 have b6 := b6.mono f2
 have a9 := f2.1 _ _ a9
 have q3 := evT (c6 5 rfl) n9
 have q4 := evT (c6 8 rfl) o1
 have q5 := evT (c6 10 rfl) m8
 have q6 := evT (c6 12 rfl) j5
 obtain ⟨x0, x1, l5⟩ := gvM (t9 21 16 (by decide) rfl)
 refine Z1 (Z0 (Z4 (m1) (by exact q3) rfl (Z4 (x0) (by exact x1) rfl (Z4 (vI a8) (by exact q5) rfl (Z4 (vI a6.2) (by exact q4) rfl ?_)))))
 refine Zt1 (IntKind.i64.wrap (a8 * a6.2)) rfl rfl rfl rfl (Z4 (vI (Y5 a6.1 a3)) (by exact q6) rfl ?_)
 refine Zt1 (IntKind.i64.wrap ((IntKind.i64.wrap (a8 * a6.2)) * (Y5 a6.1 a3))) rfl rfl rfl rfl ?_
 obtain ⟨_, u0, e0⟩ := bind_some e0
 refine X6 Tryz.call206 (S2 rfl) rfl (Yc8 u0  hS) ?_
 rintro _ _ _ d9 hS rfl
 have Z3 := Z3.trans d9
 have a5 := a5.mono d9
 have a7 := a7.mono d9
 have l5 := l5.mono d9
 have b8 := b8.mono d9
 have b1 := b1.mono d9
 have b6 := b6.mono d9
 have a9 := d9.1 _ _ a9
 obtain ⟨i3, u1, e0⟩ := bind_some e0
 have hS := hS.perm Wf6
 refine T5 Tryz.call129 (G7 rfl rfl rfl) rfl (Zw5 u1 b1 l5 hS) ?_
 rintro _ _ ⟨x2, x3, rfl, g1, hS, u2⟩
 refine ⟨_, rfl, ?_⟩
 have Z3 := Z3.trans g1
 have a5 := a5.mono g1
 have a7 := a7.mono g1
 have b8 := b8.mono g1
 have b6 := b6.mono g1
 have a9 := g1.1 _ _ a9
 have hS := hS.perm Wf6.symm
 refine Z1 ?_
 have hS := St.dropA hS
 have hS := St.dropA hS
 exact p2 _ _ ⟨i3, x2, x3, e0, Z3, hS, u2, b8, a5, a7, b6, a9, (evT (c6 0 rfl) i0), q3, (evT (c6 6 rfl) k9), (evT (c6 7 rfl) o0), q4, (evT (c6 9 rfl) l0), q5, (evT (c6 11 rfl) h0), q6, (evT (c6 21 rfl) n0), (evT (c6 28 rfl) n1), (evT (c6 29 rfl) n2)⟩
 refine Z8 (bF m6 rfl) (Y8 ?_)
 exact p2 _ _ ⟨c0, m3, b3, c7, Z3, hS, b1, b8, a5, a7, b6, a9, h6, h7, h8, h9, k1, k2, i5, rfl, rfl, g5, g6, d7⟩
 refine Z8 (bF m4 rfl) ?_
 refine W0 rfl ?_
 obtain rfl := oi c7
 exact y0 _ _ ⟨a4, c0, m3, b3, rfl, Z3, hS, b1, b8, a5, a7, b6, a9, h6, h7, h8, g5⟩
 exact ⟨1, 0, (fun _ => 0), b4, p0, d0, c7, Z3, hS, (by omega), i2, b8, a5, a7, b6, a9, n7, k0, n8, rfl, rfl, rfl, rfl, g4, rfl, rfl⟩
 rintro _ _ ⟨e4, d4, x4, e6, rfl, Z3, hS, l9, b8, a5, a7, b6, a9, o2, o3, o4, n3⟩
 dsimp only [Ex.elim] at p1
 refine X4 ?_
 have hS := St.dropA hS
 have hS := St.dropA hS
 exact x8 _ _ ⟨f5, d4, x4, d8, e6, p1, Z3, hS, b6.drop, l9, b8, a5, a7, a9, o2, o3, o4, n3⟩
 exact ⟨a1, ([] : MpT), H6, x7, C3, d6, Z3, hS, u4, o7, b8, a5, a7, a9, rfl, rfl, rfl, rfl⟩
 rintro _ _ ⟨e1, _, f6, g3, rfl, Z3, hS, _, m0, b8, o5⟩
 dsimp only [Ex.elim] at o9
 refine Z2 (Z0 (Z4 (m1) (by exact o5) rfl (Z5 (m1) rfl rfl (Z1 ?_))))
 refine X0 (vs := [m1]) Tryz.func116 ⟨rfl, trivial⟩ ?_
 have hS := hS.perm Q8
 have hS := St.dropMid hS
 have hS := St.dropMid hS
 obtain rfl := oi o9
 exact ⟨_, _, _, rfl, Z3, hS, m0⟩
-- impl_sumOf
def Za4 (K : Nat) (a2 : (List (List (A8 × Int)))) : Nat → Int → (List MpT) → Option (Ex LdT ((List MpT)))
 | 0, _, _ => none
 | k + 1, x0_17, x0_own1120 => (if x0_17 < (a2.length : Int) then ((Ze5 K (rd a2 x0_17)).bind fun r78 => (if x0_own1120.length + ([r78]).length ≤ 1099511627776 then Za4 K a2 k (x0_17 + 1) (x0_own1120 ++ [r78]) else none)) else some (.go x0_own1120))
def Zs3 (K : Nat) (a0 : (List Int)) (a1 : (List Int)) (a2 : (List (List (A8 × Int)))) : Option LdT := ((Za4 K a2 K 0 ([] : List MpT)).bind (Ex.elim (fun r => some r) (fun s => (fun (y0_own1120 : (List MpT)) => some (a0, a1, y0_own1120)) s)))
theorem Yw7 {a0 : (List Int)} {a1 : (List Int)} {a2 : (List (List (A8 × Int)))} {r : LdT} (q0 : Zs3 K a0 a1 a2 = some r) (hs0 : Z9 (Y6 .i64) H s0 a0) (hs1 : Z9 (Y6 .i64) H s1 a1) (hs2 : Z9 (Y9 (Zp1 (Zr3 .u8) (Y6 .i64))) H s2 a2) (hS : St H w L) :
 Calls Tryz.prog 140 #[s0, s1, s2] w (T2 (fun v G => (R.ptr (Xs5 K)).p G v r) H L) := by
 have Z3 := Sub.refl H
 refine X3 Tryz.func140 rfl Tryz.ntmps140 rfl ?_
 unfold Zs3 at q0
 refine Z2 ?_
 refine Z0 ?_
 refine Z5 (Value.pointer none) rfl rfl ?_
 refine Z1 ?_
 refine Z2 ?_
 refine Z0 ?_
 refine Z4 (s0) rfl rfl ?_
 refine Z4 (s1) rfl rfl ?_
 refine Ye0 hS rfl ?_
 intro bm1 w2 hS
 have hS : St H w2 ([(bm1, .map #[] 0)] ++ L) := hS
 refine Zl9 ([s0] ++ ([s1] ++ ([Value.slice none 0 0] ++ [(Value.map (some bm1))]))) We2 (Vb4 rfl rfl rfl) (Q5 rfl hs0.cellsL rfl (nl rfl) (Q5 rfl hs1.cellsL rfl (nl rfl) (Q5 rfl rfl rfl (nl rfl) (Zh6 rfl)))) rfl ?_
 refine S3 (v := Value.agg ([s0] ++ ([s1] ++ ([Value.slice none 0 0] ++ [(Value.map (some bm1))]))).toArray) ([s0] ++ ([s1] ++ ([Value.slice none 0 0] ++ [(Value.map (some bm1))]))).toArray rfl rfl hS rfl ?_
 intro b4 w5 hS
 have hS : St H w5 ([(b4, .cells ([s0] ++ ([s1] ++ ([Value.slice none 0 0] ++ [(Value.map (some bm1))]))).toArray 257)] ++ ([(bm1, .map #[] 0)] ++ L)) := hS
 refine Z5 (vQ b4 0) rfl rfl ?_
 refine Z1 ?_
 refine Z2 ?_
 refine Z2 ?_
 refine Z0 ?_
 refine Z4 (s2) rfl rfl ?_
 have bl7 := hs2.bound
 refine W7 P6 rfl hs2 rfl ?_
 refine Z4 (Value.int .i64 0) rfl rfl ?_
 refine Z1 ?_
 refine Y7 ?_
 have ho1121 : W3 (Ze6 .i64) 107 H (.slice none 0 0) [] [] := W3.nil _ _ _
 have hS : St H w5 ([] ++ ([(b4, .cells ([s0] ++ ([s1] ++ ([Value.slice none 0 0] ++ [(Value.map (some bm1))]))).toArray 257)] ++ ([(bm1, .map #[] 0)] ++ L))) := hS
 have hS : St H w5 ([] ++ ([(b4, .cells ([s0] ++ ([s1] ++ ([(Value.slice none 0 0)] ++ [(Value.map (some bm1))]))).toArray 257)] ++ ([(bm1, .map #[] 0)] ++ L))) := hS
 obtain ⟨o1_0, q1_0, c1_0⟩ := bind_some q0
 refine W1 (id := 0) (fun k f w => ∃ (x0_17 : Int) (x0_own1120 : (List MpT)) (H1 : FH) (Cx0_own1120 : OL) (ux0_own1120 : Value), Za4 K a2 k x0_17 x0_own1120 = some o1_0 ∧ Sub H H1 ∧ St H1 w (Cx0_own1120 ++ ([(b4, .cells ([s0] ++ ([s1] ++ ([ux0_own1120] ++ [(Value.map (some bm1))]))).toArray 257)] ++ ([(bm1, .map #[] 0)] ++ L))) ∧ 0 ≤ x0_17 ∧ W3 (Ze6 .i64) 107 H1 ux0_own1120 x0_own1120 Cx0_own1120 ∧ Z9 (Y6 .i64) H1 s0 a0 ∧ Z9 (Y6 .i64) H1 s1 a1 ∧ Z9 (Y9 (Zp1 (Zr3 .u8) (Y6 .i64))) H1 s2 a2 ∧ tv f 7 = vQ b4 0 ∧ tv f 15 = s2 ∧ tv f 16 = Value.int .i64 (a2.length : Int) ∧ tv f 17 = Value.int .i64 x0_17) (fun f w => ∃ (y0_own1120 : (List MpT)) (H1 : FH) (Cy0_own1120 : OL) (uy0_own1120 : Value), o1_0 = .go y0_own1120 ∧ Sub H H1 ∧ St H1 w (Cy0_own1120 ++ ([(b4, .cells ([s0] ++ ([s1] ++ ([uy0_own1120] ++ [(Value.map (some bm1))]))).toArray 257)] ++ ([(bm1, .map #[] 0)] ++ L))) ∧ W3 (Ze6 .i64) 107 H1 uy0_own1120 y0_own1120 Cy0_own1120 ∧ Z9 (Y6 .i64) H1 s0 a0 ∧ Z9 (Y6 .i64) H1 s1 a1 ∧ tv f 7 = vQ b4 0) rfl ?_ ?_ K ?_ ?_
 rintro f w ⟨x0_17, x0_own1120, H1, Cx0_own1120, ux0_own1120, q1_0, _⟩
 rw [Za4] at q1_0; cases q1_0
 rintro k _ _ ih0 hx0 ⟨x0_17, x0_own1120, H1_0, Cx0_own1120, ux0_own1120, q1_0, Z3, hS, _, hox0_own1120, hs0, hs1, hs2, ff1_0_7, ff1_0_15, ff1_0_16, ff1_0_17⟩
 rw [Za4] at q1_0
 refine Z2 ?_
 refine Z0 ?_
 refine V5 (k := .i64) (a := x0_17) (b := (a2.length : Int)) (by exact ff1_0_17) (by exact ff1_0_16) rfl ?_
 refine Z1 ?_
 refine Z2 ?_
 obtain ⟨hc8, q1_0⟩ | ⟨hc8, q1_0⟩ := ic q1_0
 refine Y0 (Eq.trans rfl (congrArg vB (decide_eq_true hc8))) ?_
 refine Y8 ?_
 refine Z2 ?_
 refine Y7 ?_
 refine Z2 ?_
 refine Z0 ?_
 obtain ⟨_, _, _, _, _, hp9, hb9, ⟨u9_0, rfl, hu9_0⟩, hc9⟩ := hs2.elem (i := x0_17) (by omega) (by omega)
 refine X9 P6 rfl (by exact ff1_0_15) hp9 (by exact ff1_0_17) (by omega) (by omega) rfl ?_
 refine W9 ([u9_0]) U2 rfl (hS.froz _ _ hb9) rfl hc9 rfl ?_
 refine W6 (z := Value.agg ([Value.slice none 0 0]).toArray) ([Value.slice none 0 0]).toArray I0.zero rfl hS rfl ?_
 intro b10 w11 hS
 have hS : St H1_0 w11 ([(b10, .cells ([Value.slice none 0 0]).toArray 45)] ++ (Cx0_own1120 ++ ([(b4, .cells ([s0] ++ ([s1] ++ ([ux0_own1120] ++ [(Value.map (some bm1))]))).toArray 257)] ++ ([(bm1, .map #[] 0)] ++ L)))) := hS
 refine X5 (v := Value.agg ([u9_0]).toArray) (vs := ([u9_0]).toArray) (cs := ([Value.slice none 0 0]).toArray) U2 rfl rfl rfl hS rfl (U0 hu9_0.isOne) rfl ?_
 intro w13 hS
 have hS : St H1_0 w13 ([(b10, .cells ([u9_0]).toArray 45)] ++ (Cx0_own1120 ++ ([(b4, .cells ([s0] ++ ([s1] ++ ([ux0_own1120] ++ [(Value.map (some bm1))]))).toArray 257)] ++ ([(bm1, .map #[] 0)] ++ L)))) := hS
 refine Z1 ?_
 obtain ⟨r78, hr78, q1_0⟩ := bind_some q1_0
 by_cases hg112 : x0_own1120.length + ([r78]).length ≤ 1099511627776
 case neg => rw [if_neg hg112] at q1_0; cases q1_0
 rw [if_pos hg112] at q1_0
 refine Wv0 8 (P0 [mE 21 (vQ b4 0), mE 22 (vQ b4 0), mE 23 (vQ b4 0), mE 24 (vQ b4 2), mE 25 (ux0_own1120), mE 26 (Value.agg ([u9_0]).toArray), (27, MP.mp .i64 (r78)), (28, MP.sl (Ze6 .i64) ([r78]))]) (fun G w v => ∃ C, St G w (C ++ ([(b10, .cells ([u9_0]).toArray 45)] ++ ([(b4, .cells ([s0] ++ ([s1] ++ ([ux0_own1120] ++ [(Value.map (some bm1))]))).toArray 257)] ++ ([(bm1, .map #[] 0)] ++ L)))) ∧ W3 (Ze6 .i64) 107 G v (x0_own1120 ++ [r78]) C) mixed (Wp4 (by intro p hp v; simp only [List.mem_cons, List.not_mem_nil, or_false] at hp; rcases hp with rfl | rfl | rfl | rfl | rfl | rfl | rfl | rfl <;> rfl)) rfl rfl (j0 := 0) rfl rfl rfl rfl rfl rfl rfl (fun _ _ => ff1_0_7) hS (Z6 rfl ?_ (Z6 rfl ?_ (Z6 rfl ?_ (Z6 rfl ?_ (Z6 rfl ?_ (Z6 rfl ?_ (Z6 rfl ?_ (Z6 rfl ?_ U7)))))))) ?_ ?_
 exact W5 fun S B => Z4 (vQ b4 0) (evT (B 7 rfl) ff1_0_7) rfl (qz S)
 exact W5 fun S B => Z4 (vQ b4 0) (evT (B 7 rfl) ff1_0_7) rfl (qz S)
 exact X2 fun S V => R9 (eM (V 1 22 rfl rfl)) rfl (qz S)
 exact X2 fun S V => Y2 Xg3 (eM (V 2 23 rfl rfl)) rfl (qz S)
 exact X2 fun S V => Y3 (ux0_own1120) Yn4 (eM (V 3 24 rfl rfl)) (S.get (mR (mR (mR mL)))) rfl rfl (qz S)
 exact W5 fun S B => X7 U2 (evT (B 9 rfl) rfl) (S.get (mR mL)) rfl rfl (qz S)
 intro f68 _ H70 _ sb72 hS _ hV74 hcq
 have Z3 := Sub.refl H70
 have hu9_0 := hu9_0.mono sb72
 have q76 : tv f68 26 = Value.agg ([u9_0]).toArray := hV74 5 26 rfl rfl
 refine T5 Tryz.call110 (S2 q76) rfl (Zj2 hr78 hu9_0 hS) ?_
 rintro _ _ ⟨_, _, _, rfl, sb78, hS, ho78⟩
 refine ⟨_, rfl, ?_⟩
 have Z3 := Z3.trans sb78
 obtain ⟨_, sb82, hS, hu78⟩ := ho78.freeze hS
 have Z3 := Z3.trans sb82
 exact Z1 ⟨27, _, _, rfl, rfl, Z3, hS, hu78⟩
 intro f83 _ H85 X86 _ hS _ hV89 hcq
 have Z3 := Sub.refl H85
 obtain ⟨v92, q91⟩ : ∃ v, tv f83 27 = v := ⟨_, rfl⟩
 have hu92 : Q9 .i64 H85 v92 (r78) := q91 ▸ (hV89 6 27 rfl rfl)
 refine D9 (τ := (Ze6 .i64)) Yj5 Xa8 rfl [v92] [r78] rfl rfl (K6 q91) (Zi6 hu92.relv) (by decide) (by decide) hS rfl ?_
 intro _ H94 w95 sb96 hS hl97
 have Z3 := Z3.trans sb96
 have hS : St H94 w95 (X86 ++ ([(b10, .cells ([u9_0]).toArray 45)] ++ (Cx0_own1120 ++ ([(b4, .cells ([s0] ++ ([s1] ++ ([ux0_own1120] ++ [(Value.map (some bm1))]))).toArray 257)] ++ ([(bm1, .map #[] 0)] ++ L))))) := hS
 exact Z1 ⟨28, _, _, rfl, rfl, Z3, hS, hl97⟩
 intro f98 w99 H100 sb101 hS hB102 hV103
 have Z3 := Z3.trans sb101
 have hs2 := hs2.mono sb101
 have hs0 := hs0.mono sb101
 have hs1 := hs1.mono sb101
 have hox0_own1120 := hox0_own1120.mono sb101
 have g109 : tv f98 25 = ux0_own1120 := hV103 4 25 (by decide) (by decide) rfl
 obtain ⟨v111, g110⟩ : ∃ v, tv f98 28 = v := ⟨_, rfl⟩
 have hu111 : Z9 (Ze6 .i64) H100 v111 ([r78]) := g110 ▸ (hV103 7 28 (by decide) (by decide) rfl)
 have hS : St H100 w99 (Cx0_own1120 ++ ([(b10, .cells ([u9_0]).toArray 45)] ++ ([(b4, .cells ([s0] ++ ([s1] ++ ([ux0_own1120] ++ [(Value.map (some bm1))]))).toArray 257)] ++ ([(bm1, .map #[] 0)] ++ L)))) := hS.perm (V1 (A1 := [(b10, .cells ([u9_0]).toArray 45)]))
 refine N5 (τ := (Ze6 .i64)) Xr4 rfl (by exact g109) (by exact g110) hox0_own1120 hS hu111 hg112 rfl ?_
 intro u113 _ C115 ho116 hS
 exact Z1 ⟨u113, _, rfl, Sub.refl _, C115, hS, ho116⟩
 intro f98 w99 H100 sb101 hBB hB102 hV103
 obtain ⟨C115, hS, ho116⟩ := hBB
 obtain ⟨u113, g113⟩ : ∃ v, tv f98 29 = v := ⟨_, rfl⟩
 have ho116 : W3 (Ze6 .i64) 107 H100 u113 (x0_own1120 ++ [r78]) C115 := g113 ▸ ho116
 have Z3 := Z3.trans sb101
 have hs2 := hs2.mono sb101
 have hs0 := hs0.mono sb101
 have hs1 := hs1.mono sb101
 have g104 : tv f98 7 = vQ b4 0 := Eq.trans (hB102 7 rfl) ff1_0_7
 have g105 : tv f98 15 = s2 := Eq.trans (hB102 15 rfl) ff1_0_15
 have g106 : tv f98 16 = Value.int .i64 (a2.length : Int) := Eq.trans (hB102 16 rfl) ff1_0_16
 have g107 : tv f98 17 = Value.int .i64 x0_17 := Eq.trans (hB102 17 rfl) ff1_0_17
 have g108 : tv f98 21 = vQ b4 0 := hV103 0 21 (by decide) rfl
 have hS : St H100 w99 ([(b10, .cells ([u9_0]).toArray 45)] ++ (C115 ++ ([(b4, .cells ([s0] ++ ([s1] ++ ([ux0_own1120] ++ [(Value.map (some bm1))]))).toArray 257)] ++ ([(bm1, .map #[] 0)] ++ L)))) := hS.perm (V1 (A1 := [(b10, .cells ([u9_0]).toArray 45)])).symm
 refine R9 (by exact g108) rfl ?_
 refine Y2 Xg3 rfl rfl ?_
 have hS : St H100 w99 ([(b4, .cells ([s0] ++ ([s1] ++ ([ux0_own1120] ++ [(Value.map (some bm1))]))).toArray 257)] ++ ([(b10, .cells ([u9_0]).toArray 45)] ++ (C115 ++ ([(bm1, .map #[] 0)] ++ L)))) := hS.perm (Q8 (A1 := [(b10, .cells ([u9_0]).toArray 45)]) (A2 := C115))
 refine Zb3 (v := u113) (cs := ([s0] ++ ([s1] ++ ([ux0_own1120] ++ [(Value.map (some bm1))]))).toArray) (cs' := ([s0] ++ ([s1] ++ ([u113] ++ [(Value.map (some bm1))]))).toArray) Yn4 rfl (by exact g113) hS ho116.isOne rfl (nl rfl) rfl ?_
 intro w117 hS
 have hS : St H100 w117 ([(b4, .cells ([s0] ++ ([s1] ++ ([u113] ++ [(Value.map (some bm1))]))).toArray 257)] ++ ([(b10, .cells ([u9_0]).toArray 45)] ++ (C115 ++ ([(bm1, .map #[] 0)] ++ L)))) := hS
 have hS : St H100 w117 ([(b10, .cells ([u9_0]).toArray 45)] ++ (C115 ++ ([(b4, .cells ([s0] ++ ([s1] ++ ([u113] ++ [(Value.map (some bm1))]))).toArray 257)] ++ ([(bm1, .map #[] 0)] ++ L)))) := hS.perm (Q8 (A1 := [(b10, .cells ([u9_0]).toArray 45)]) (A2 := C115)).symm
 refine Z1 ?_
 refine X4 ?_
 refine Z0 ?_
 refine W8 (x0_17 + 1) (by exact g107) rfl (IntWalk.i64_in _ (by omega)) rfl ?_
 refine Z4 (Value.int .i64 (x0_17 + 1)) rfl rfl ?_
 refine Z1 ?_
 have hS := St.dropA (A := [(b10, .cells ([u9_0]).toArray 45)]) hS
 exact ih0 _ _ ⟨(x0_17 + 1), (x0_own1120 ++ [r78]), H100, C115, u113, q1_0, Z3, hS, (by omega), ho116, hs0, hs1, hs2, g104, g105, g106, rfl⟩
 refine Z8 (Eq.trans rfl (congrArg vB (decide_eq_false hc8))) ?_
 refine W0 rfl ?_
 obtain rfl := oi q1_0
 exact hx0 _ _ ⟨x0_own1120, H1_0, Cx0_own1120, ux0_own1120, rfl, Z3, hS, hox0_own1120, hs0, hs1, ff1_0_7⟩
 exact ⟨0, ([] : List MpT), H, ([]), (Value.slice none 0 0), q1_0, Z3, hS, (by omega), ho1121, hs0, hs1, hs2, rfl, rfl, rfl, rfl⟩
 rintro _ w2_0 ⟨y0_own1120, _, Cy0_own1120, uy0_own1120, rfl, Z3, hS, hoy0_own1120, hs0, hs1, ff2_0_7⟩
 dsimp only [Ex.elim] at c1_0
 refine Z2 ?_
 refine Z0 ?_
 refine Z4 (vQ b4 0) (by exact ff2_0_7) rfl ?_
 refine Z5 (vQ b4 0) rfl rfl ?_
 refine Z1 ?_
 refine X0 (vs := [vQ b4 0]) Tryz.func140 ⟨rfl, trivial⟩ ?_
 obtain ⟨H118, sb119, hS, hf120⟩ := hoy0_own1120.freeze hS
 have Z3 := Z3.trans sb119
 have hs0 := hs0.mono sb119
 have hs1 := hs1.mono sb119
 have hS : St H118 w2_0 ([(bm1, .map #[] 0)] ++ ([(b4, .cells ([s0] ++ ([s1] ++ ([uy0_own1120] ++ [(Value.map (some bm1))]))).toArray 257)] ++ L)) := hS.perm (V1 (A1 := [(b4, .cells ([s0] ++ ([s1] ++ ([uy0_own1120] ++ [(Value.map (some bm1))]))).toArray 257)]))
 obtain ⟨H121, sb122, hS, hm123⟩ := St.toMemo hS K (a0, a1, y0_own1120)
 have Z3 := Z3.trans sb122
 have hs0 := hs0.mono sb122
 have hs1 := hs1.mono sb122
 have hf120 := hf120.mono sb122
 have hS : St H121 w2_0 ([(b4, .cells ([s0] ++ ([s1] ++ ([uy0_own1120] ++ [(Value.map (some bm1))]))).toArray 257)] ++ L) := hS
 have hS : St H121 w2_0 ([(b4, .cells ([s0] ++ ([s1] ++ ([uy0_own1120] ++ [(Value.map (some bm1))]))).toArray 257)] ++ L) := hS
 obtain ⟨H124, sb125, hS, hb126⟩ := St.freezeBox hS
 have Z3 := Z3.trans sb125
 have hs0 := hs0.mono sb125
 have hs1 := hs1.mono sb125
 have hf120 := hf120.mono sb125
 have hm123 := hm123.mono sb125
 have hS : St H124 w2_0 (L) := hS
 obtain rfl := oi c1_0
 exact ⟨_, _, rfl, Z3, hS, ⟨_, _, _, _, _, rfl, hb126, ⟨_, _, _, _, rfl, hs0, hs1, hf120, hm123⟩, (Zc3 ([s0] ++ ([s1] ++ ([uy0_own1120] ++ [(Value.map (some bm1))]))) 4)⟩⟩
end Go.Proofs.YtabofnehiclkiaaGreat
