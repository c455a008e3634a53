/- Walk, rules and plain laws. -/
import Derived.Test.YtabofnehiclkiaaGreatRF13
namespace Go.Proofs.YtabofnehiclkiaaGreat
open Go Go.Proofs.Tryz IntKind IntWalk List
set_option linter.all false
set_option maxRecDepth 100000
set_option maxHeartbeats 8000000
variable {K : Nat} {H : FH} {w : World} {L : OL} {s0 s1 s2 s3 s4 s5 s6 : Value}
def R9 (K : Nat) (a3 : Int) : Nat → Int → A8 → Option (Ex MpT A8)
 | 0, _, _ => none
 | k + 1, b5, b7 => (if b5 < (a3 + 1) then (if b5 < 8 then R9 K a3 k (b5 + 1) (T3 b7 b5 0) else none) else some (.go b7))
def N4 (K : Nat) (i1 : Int → Int → A8 → MpT → Option (Ex MpT (A8 × MpT))) (a0 : ((List Int) × (List MpT))) (a8 a3 : Int) (a4 : A8) (a6 : (A8 × Int)) (b0 : MpT) : Option (Ex MpT (A8 × MpT)) := (if a3 < (a0.1.length : Int) then (if (((rd a0.1 a3)).tmod 2) = 1 then (if (((Y5 a6.1 a3)).tmod 2) = 1 then i1 (i64.wrap (0 - a8)) (a3 + 1) (T3 a4 a3 (Y5 a6.1 a3)) b0 else i1 a8 (a3 + 1) (T3 a4 a3 (Y5 a6.1 a3)) b0) else i1 a8 (a3 + 1) (T3 a4 a3 (Y5 a6.1 a3)) b0) else i1 a8 (a3 + 1) (T3 a4 a3 (Y5 a6.1 a3)) b0)
def T5 (K : Nat) (a0 : ((List Int) × (List MpT))) (r6 : M8) (a6 : (A8 × Int)) : Nat → Int → Int → A8 → MpT → Option (Ex MpT (A8 × MpT))
 | 0, _, _, _, _ => none
 | k + 1, a8, a3, a4, c0 => (if a3 < 8 then (if 0 < (Y5 a6.1 a3) then ((R9 K a3 K 0 a6.1).bind (Ex.elim (fun r => some (.ret r)) (fun s => (fun (b2 : A8) => ((B4 K (Zc9 ([] : MpT) (T3 a4 a3 (i64.wrap ((Y5 a6.1 a3) - 1))) 1) a0.1 (Yf6 r6 a3)).bind fun h4 => ((B4 K h4 a0.1 (Zc9 ([] : MpT) b2 1)).bind fun g2 => ((Zp3 K (i64.wrap ((i64.wrap (a8 * a6.2)) * (Y5 a6.1 a3)))).bind fun l1 => ((E5 K c0 g2 l1).bind fun i3 => N4 K (T5 K a0 r6 a6 k) a0 a8 a3 a4 a6 i3))))) s))) else N4 K (T5 K a0 r6 a6 k) a0 a8 a3 a4 a6 c0) else some (.go (a4, c0)))
def S9 (K : Nat) (a0 : ((List Int) × (List MpT))) (r6 : M8) : Nat → MpT → MpT → Option (Ex MpT MpT)
 | 0, _, _ => none
 | k + 1, [], b4 => some (.go b4)
 | k + 1, a6 :: f5, b4 => ((T5 K a0 r6 a6 K 1 0 (fun _ => 0) b4).bind (Ex.elim (fun r => some (.ret r)) (fun s => (fun (e4 : A8) (d4 : MpT) => S9 K a0 r6 k f5 d4) s.1 s.2)))
theorem Yl4 {a0 : ((List Int) × (List MpT))} {r6 : M8} {b4 : MpT} {k : Nat} {zp zq : MpT} {o : Ex MpT (MpT)} (hp : zp.Perm zq) (q : S9 K a0 r6 k zp b4 = some o) : S9 K a0 r6 k zq b4 = some o := by
 have h2 : ∀ (i : Int) (k : Nat) (j : Int) (b : A8) e, R9 K i k j b = some e → ∃ y, e = .go y := by
  intro i k
  induction k with
  | zero => intro j b e h; rw [R9] at h; cases h
  | succ k ih =>
   intro j b e h
   rw [R9] at h
   split at h
   split at h
   exact ih _ _ _ h
   cases h
   cases h; exact ⟨_, rfl⟩
 have hj : ∀ (i1 : Int → Int → A8 → MpT → Option (Ex MpT (A8 × MpT))) (a b : Int) (c : A8) (z : A8 × Int), (∀ a b c, Zr5 K (fun (x : A8) s => (x, s)) (fun s => i1 a b c s)) →
  Zr5 K (fun (x : A8) s => (x, s)) (fun s => N4 K i1 a0 a b c z s) := by
  intro i1 a b c z h
  unfold N4
  exact .ite (.ite (.ite (h _ _ _) (h _ _ _)) (h _ _ _)) (h _ _ _)
 have hl : ∀ (z : A8 × Int) (k : Nat) (a b : Int) (c : A8), Zr5 K (fun (x : A8) s => (x, s)) (fun s => T5 K a0 r6 z k a b c s) := by
  intro z k
  induction k with
  | zero => intro a b c; exact ⟨none, fun s => (show T5 K a0 r6 z 0 a b c s = none by rw [T5])⟩
  | succ k ih =>
   intro a b c
   have e : (fun s => T5 K a0 r6 z (k + 1) a b c s) = fun s => (if b < 8 then (if 0 < (Y5 z.1 b) then ((R9 K b K 0 z.1).bind fun e => (match e with
    | .ret r => some (.ret r)
    | .go y => ((B4 K (Zc9 ([] : MpT) (T3 c b (i64.wrap ((Y5 z.1 b) - 1))) 1) a0.1 (Yf6 r6 b)).bind fun h4 => ((B4 K h4 a0.1 (Zc9 ([] : MpT) y 1)).bind fun g2 => ((Zp3 K (i64.wrap ((i64.wrap (a * z.2)) * (Y5 z.1 b)))).bind fun l1 => ((E5 K s g2 l1).bind fun i3 => N4 K (T5 K a0 r6 z k) a0 a b c z i3)))))) else N4 K (T5 K a0 r6 z k) a0 a b c z s) else some (.go (c, s))) := by
    funext s
    rw [T5]
    split
    split
    cases R9 K b K 0 z.1 with
    | none => rfl
    | some e => cases e <;> rfl
    rfl
    rfl
   rw [e]
   refine .ite (.ite ?_ (hj _ _ _ _ _ ih)) (.go (h := fun (x : A8) s => (x, s)) c)
   cases hq : R9 K b K 0 z.1 with
   | none => exact .fail
   | some e =>
    obtain ⟨y, rfl⟩ := h2 _ _ _ _ _ hq
    simp only [Option.bind_some]
    exact .const fun h4 => .const fun g2 => .const fun l1 => .bind (Wj6 _ _) (hj _ _ _ _ _ ih)
 exact (Yo8 (K := K) (fun k zs s => S9 K a0 r6 k zs s) (by intros; rw [S9])
  (fun z => by
   obtain ⟨F, hF, hs⟩ := (hl z K 1 0 (fun _ => 0)).step (fun s => s.2) (fun _ _ => rfl)
   refine ⟨F, hF, fun k zs s => ?_⟩
   rw [S9]
   exact hs _ (S9 K a0 r6 k zs) s) hp k b4).symm.trans q
def Zb7 (K : Nat) (a0 : ((List Int) × (List MpT))) (a1 : MpT) : Option MpT := ((Zf4 K (a0.1, a0.2)).bind fun r6 => ((S9 K a0 r6 K a1 ([] : MpT)).bind (Ex.elim (fun r => some r) (fun s => (fun (e1 : MpT) => some e1) s))))
theorem Yf2 {a0 : ((List Int) × (List MpT))} {a1 r : MpT} (q0 : Zb7 K a0 a1 = some r) (x5 : Zt4 (Yd6 (X3 (Y4 .i64)) (X3 (X3 yT))) H s0 a0) (o6 : N0 .i64 H s1 a1) (hS : St H w L) :
 Calls prog 116 #[s0, s1] w (Xt4 .i64 r H L) := by
 obtain ⟨c5, d2, h5, j8, _, rfl, a9, ⟨_, _, rfl, ⟨c3, rfl, a5⟩, ⟨e2, rfl, a7⟩⟩, i4⟩ := x5
 have Z4 := Sub.refl H
 refine X0 func116 U ntmps116 U ?_
 unfold Zb7 at q0
 refine Z1 (Z0 (Z5 (Value.map none) U U (Z2 (Z1 (Z0 (Yi9 (k := .i64) hS U (fun m1 _ C3 o7 hS => Z3 (vQ c5 d2) U U ?_)))))))
 obtain ⟨r6, x6, q0⟩ := bSm q0
 refine X2 call205 (S4 U) U (Ym0 x6 ⟨_, _, _, _, _, U, a9, ⟨_, _, U, ⟨_, U, a5⟩, ⟨_, U, a7⟩⟩, i4⟩ hS) ?_
 rintro _ H6 _ j9 hS ⟨_, rfl, ⟨u6, rfl, b8⟩⟩
 have Z4 := Z4.trans j9
 have a5 := a5.mono j9
 have a7 := a7.mono j9
 have o6 := o6.mono j9
 have o7 := o7.mono j9
 have a9 := j9.1 _ _ a9
 have y9 : RdV .i64 H6 Zp8 (fun _ => ([] : MpT)) := RdV.nil
 refine U5 (z := vA (M5 Zp8)) (M5 Zp8).toArray Wm3.zero U hS U fun b9 _ hS => Z5 m1 U U (W1 (v := vA (M5 u6)) (vs := (M5 u6).toArray) (cs := (M5 Zp8).toArray) Xi7 U U U hS U (Yt3 b8) U (fun _ hS => Z2 (Z1 (Z1 (Z0 (Z3 s1 U U (Yk3 Zs5 U o6 hS U (fun c9 _ x7 u4 hS => Z2 (Y8 ?_)))))))))
 obtain ⟨o8, d6, o9⟩ := bSm q0
 refine W3 (id := 0) (fun k f w => ∃ e5 b4 H1 d3 d0, S9 K a0 r6 k e5 b4 = some o8 ∧ Sub H H1 ∧ St H1 w (d3 ++ ([(b9, cA (M5 u6) 237)] ++ (d0 ++ L))) ∧ Zi2 .i64 H1 c9 e5 none d3 ∧ Q8 .i64 m1 b4 d0 ∧ RdV .i64 H1 u6 r6 ∧ Y3 (Y4 .i64) H1 c3 a0.1 ∧ Y3 (X3 yT) H1 e2 a0.2 ∧ H1 c5 = some (.cells h5 j8) ∧ tv f 0 = vQ c5 d2 ∧ tv f 5 = m1 ∧ tv f 6 = vP b9 ∧ tv f 21 = c9) (fun f w => ∃ e1 H1 f6 g3, o8 = .go e1 ∧ Sub H H1 ∧ St H1 w (f6 ++ ([(b9, cA (M5 u6) 237)] ++ (g3 ++ L))) ∧ Zi2 .i64 H1 c9 ([] : MpT) none f6 ∧ Q8 .i64 m1 e1 g3 ∧ RdV .i64 H1 u6 r6 ∧ tv f 5 = m1) U ?_ ?_ K ?_ ?_
 rintro f w ⟨e5, b4, H1, d3, d0, d6, _⟩
 rw [S9] at d6; cases d6
 rintro k _ _ x8 x9 ⟨e5, b4, p0, d3, d0, d6, Z4, hS, h1, i2, b8, a5, a7, a9, n7, k0, n8, g4⟩
 refine Z1 (Z0 (Ys4 (by exact g4) h1 hS U ?_ ?_))
 intro u5; subst u5
 rw [S9] at d6
 refine V1 (vB false) U U U (Z2 (Z1 (Z6 U (W2 U ?_))))
 cases d6
 exact x9 _ _ ⟨b4, p0, d3, d0, U, Z4, hS, h1, i2, b8, k0⟩
 intro a6 f5 _ d8 u7 b6 hS
 replace d6 := Yl4 u7 d6
 rw [S9] at d6
 refine V1 (vB true) U U U (Z2 (Z1 (Z8 U (Y6 (Y8 (Z1 (Z0 (Yk7 (by exact g4) b6 hS U (V1 (vA (Z7 .i64 a6.1)) U U U (V1 (vI a6.2) U U U (U5 (z := vA (Z7 .i64 (fun _ => 0))) (Z7 .i64 (fun _ => 0)).toArray Zm8.zero U hS U (fun f3 _ hS => W1 (v := vA (Z7 .i64 a6.1)) (vs := (Z7 .i64 a6.1).toArray) (cs := (Z7 .i64 (fun _ => 0)).toArray) P3 U U U hS U (R7 .i64 a6.1) U (fun _ hS => Z5 (vI a6.2) U U (Z2 (Z1 (Z0 (M4 (vA (Z7 .i64 (fun _ => 0))) Xt5 U (U5 (z := vA (Z7 .i64 (fun _ => 0))) (Z7 .i64 (fun _ => 0)).toArray Zm8.zero U hS U (fun f4 _ hS => W1 (v := vA (Z7 .i64 (fun _ => 0))) (vs := (Z7 .i64 (fun _ => 0)).toArray) (cs := (Z7 .i64 (fun _ => 0)).toArray) P3 U U U hS U (R7 .i64 (fun _ => 0)) U (fun _ hS => Z5 (vI 1) U U (Z2 (Z1 (Z0 (X5 P3 U (hS.get (mR mL)) U U (Z3 (vI 0) U U (Z2 (Y8 ?_)))))))))))))))))))))))))))
 obtain ⟨m2, c7, p1⟩ := bSm d6
 refine W3 (id := 2) (fun k f w => ∃ a8 a3 a4 c0 H1 b3, T5 K a0 r6 a6 k a8 a3 a4 c0 = some m2 ∧ Sub H H1 ∧ St H1 w ([(f4, cA (Z7 .i64 a4) 222)] ++ ([(f3, cA (Z7 .i64 a6.1) 222)] ++ (d8 ++ ([(b9, cA (M5 u6) 237)] ++ (b3 ++ L))))) ∧ 0 ≤ a3 ∧ Q8 .i64 m1 c0 b3 ∧ RdV .i64 H1 u6 r6 ∧ Y3 (Y4 .i64) H1 c3 a0.1 ∧ Y3 (X3 yT) H1 e2 a0.2 ∧ Zi2 .i64 H1 c9 f5 (some a6) d8 ∧ H1 c5 = some (.cells h5 j8) ∧ tv f 0 = vQ c5 d2 ∧ tv f 5 = m1 ∧ tv f 6 = vP b9 ∧ tv f 7 = vP f3 ∧ tv f 8 = vI a6.2 ∧ tv f 9 = vP f4 ∧ tv f 10 = vI a8 ∧ tv f 21 = c9 ∧ tv f 28 = vA (Z7 .i64 a6.1) ∧ tv f 29 = vI a3) (fun f w => ∃ e4 d4 H1 e6, m2 = .go (e4, d4) ∧ Sub H H1 ∧ St H1 w ([(f4, cA (Z7 .i64 e4) 222)] ++ ([(f3, cA (Z7 .i64 a6.1) 222)] ++ (d8 ++ ([(b9, cA (M5 u6) 237)] ++ (e6 ++ L))))) ∧ Q8 .i64 m1 d4 e6 ∧ RdV .i64 H1 u6 r6 ∧ Y3 (Y4 .i64) H1 c3 a0.1 ∧ Y3 (X3 yT) H1 e2 a0.2 ∧ Zi2 .i64 H1 c9 f5 (some a6) d8 ∧ H1 c5 = some (.cells h5 j8) ∧ tv f 0 = vQ c5 d2 ∧ tv f 5 = m1 ∧ tv f 6 = vP b9 ∧ tv f 21 = c9) U ?_ ?_ K ?_ ?_
 rintro f w ⟨a8, a3, a4, c0, H1, b3, c7, _⟩
 rw [T5] at c7; cases c7
 rintro k _ _ n4 y0 ⟨a8, a3, a4, c0, m3, b3, c7, Z4, hS, _, b1, b8, a5, a7, b6, a9, h6, h7, h8, h9, k1, k2, i5, g5, g6, d7⟩
 rw [T5] at c7
 refine Z1 (Z0 (V4 (k := .i64) (a := a3) (b := 8) (by exact d7) U U (Z2 (Z1 ?_))))
 obtain ⟨m4, c7⟩ | ⟨m4, c7⟩ := ic c7
 refine Z8 (bT m4 U) (Y6 (Z1 (Y8 (Z1 (Z0 (Z3 (vI a3) (by exact d7) U (Yo6 (vI (Y5 a6.1 a3)) Zm9 (by exact g6) (by exact d7) (by omega) (by omega) (Ym6 (by omega) (by omega)) U (Z5 (vI a3) U U (Z5 (vI (Y5 a6.1 a3)) U U (Z2 (Z1 (Z1 (Z0 (Z3 (vI (Y5 a6.1 a3)) U U (A0 (k := .i64) (a := (Y5 a6.1 a3)) (b := 0) U U U (Z2 (N1 (fun f w => ∃ b0 H1 c1, N4 K (T5 K a0 r6 a6 k) a0 a8 a3 a4 a6 b0 = some m2 ∧ Sub H H1 ∧ St H1 w ([(f4, cA (Z7 .i64 a4) 222)] ++ ([(f3, cA (Z7 .i64 a6.1) 222)] ++ (d8 ++ ([(b9, cA (M5 u6) 237)] ++ (c1 ++ L))))) ∧ Q8 .i64 m1 b0 c1 ∧ RdV .i64 H1 u6 r6 ∧ Y3 (Y4 .i64) H1 c3 a0.1 ∧ Y3 (X3 yT) H1 e2 a0.2 ∧ Zi2 .i64 H1 c9 f5 (some a6) d8 ∧ H1 c5 = some (.cells h5 j8) ∧ tv f 0 = vQ c5 d2 ∧ tv f 5 = m1 ∧ tv f 6 = vP b9 ∧ tv f 7 = vP f3 ∧ tv f 8 = vI a6.2 ∧ tv f 9 = vP f4 ∧ tv f 10 = vI a8 ∧ tv f 11 = vI a3 ∧ tv f 12 = vI (Y5 a6.1 a3) ∧ tv f 21 = c9 ∧ tv f 28 = vA (Z7 .i64 a6.1) ∧ tv f 29 = vI a3) ?_ ?_)))))))))))))))))
 rintro _ _ ⟨b0, h3, c1, c4, Z4, hS, c8, b8, a5, a7, b6, a9, d5, f7, f8, f9, g0, e3, e7, g7, i6, e8, e9, f0⟩
 unfold N4 at c4
 refine Z1 (Z0 (Z3 (vI a3) (by exact g7) U (Z3 (vI (Y5 a6.1 a3)) (by exact i6) U (U3 Zm9 (by exact e3) U (by omega) (by omega) U (J7 (v := vI (Y5 a6.1 a3)) (cs := (Z7 .i64 a4).toArray) (cs' := (Z7 .i64 (T3 a4 a3 (Y5 a6.1 a3))).toArray) ty3 U U hS U (Zv6 U) (by simp [Z7, M5]; omega) (Zj0 (by omega) (by omega)) (fun _ hS => Z2 (Z1 (Z0 (Z3 (vI a3) (by exact g7) U (Z3 (vQ c5 d2) (by exact d5) U (V0 U U (Y2 N8 U U (Y1 c3 Q9 U (hS.froz _ _ a9) (i4 0 (show 0 < 2 by decide)) U ?_)))))))))))))
 have y8 := a5.bound
 refine X9 T1 U a5 U (V4 (k := .i64) (a := a3) (b := (a0.1.length : Int)) U U U (Z3 (vB (decide (a3 < (a0.1.length : Int)))) U U ?_))
 obtain ⟨c2, c4⟩ | ⟨c2, c4⟩ := ic c4
 refine Y0 U U (bT c2 U) (Z3 (vQ c5 d2) (by exact d5) U (Y0 U U (bT c2 U) (V0 U U (Y0 U U (bT c2 U) (Y2 N8 U U (Y0 U U (bT c2 U) (Y1 c3 Q9 U (hS.froz _ _ a9) (i4 0 (show 0 < 2 by decide)) U (Y0 U U (bT c2 U) (Z3 (vI a3) (by exact g7) U ?_)))))))))
 obtain ⟨_, _, _, _, _, u8, u9, rfl, v0⟩ := a5.elem (i := a3) (by omega) (by omega)
 refine Y0 U U (bT c2 U) (X6 T1 U U u8 U (by omega) (by omega) U (Y0 U U (bT c2 U) (Y1 (vI (rd a0.1 a3)) ty2 U (hS.froz _ _ u9) (v0 0 (show 0 < 1 by decide)) U (Y0 U U (bT c2 U) (Zd4 (((rd a0.1 a3)).tmod 2) U U (by decide) U U (Y0 U U (bT c2 U) (Zb2 (k := .i64) (a := (((rd a0.1 a3)).tmod 2)) (b := 1) U U U (W5 (t := true) (vB (decide ((((rd a0.1 a3)).tmod 2) = 1))) (bT c2 U) ((if_pos U).trans U) U (Z3 (vB (decide ((((rd a0.1 a3)).tmod 2) = 1))) U U ?_)))))))))
 obtain ⟨f1, c4⟩ | ⟨f1, c4⟩ := ic c4
 refine Y0 U U (bT f1 U) (Z3 (vI (Y5 a6.1 a3)) (by exact i6) U (Y0 U U (bT f1 U) (Zd4 (((Y5 a6.1 a3)).tmod 2) U U (by decide) U U (Y0 U U (bT f1 U) (Zb2 (k := .i64) (a := (((Y5 a6.1 a3)).tmod 2)) (b := 1) U U U (W5 (t := true) (vB (decide ((((Y5 a6.1 a3)).tmod 2) = 1))) (bT f1 U) ((if_pos U).trans U) U (Z2 ?_)))))))
 obtain ⟨m5, c4⟩ | ⟨m5, c4⟩ := ic c4
 refine Z8 (bT m5 U) (Z0 (Z3 (vI a8) (by exact e7) U (Xt0 (i64.wrap (0 - a8)) U U U (Z5 (vI (i64.wrap (0 - a8))) U U (Z2 (X1 (Z0 (W4 (a3 + 1) (by exact f0) U (i64_in _ (by omega)) U (Z3 (vI (a3 + 1)) U U (Z2 (n4 _ _ ⟨(i64.wrap (0 - a8)), (a3 + 1), (T3 a4 a3 (Y5 a6.1 a3)), b0, h3, c1, c4, Z4, hS, (by omega), c8, b8, a5, a7, b6, a9, d5, f7, f8, f9, g0, e3, U, e8, e9, U⟩)))))))))))
 refine Z6 (bF m5 U) (Y6 (X1 (Z0 (W4 (a3 + 1) (by exact f0) U (i64_in _ (by omega)) U (Z3 (vI (a3 + 1)) U U (Z2 (n4 _ _ ⟨a8, (a3 + 1), (T3 a4 a3 (Y5 a6.1 a3)), b0, h3, c1, c4, Z4, hS, (by omega), c8, b8, a5, a7, b6, a9, d5, f7, f8, f9, g0, e3, e7, e8, e9, U⟩)))))))
 refine Z9 U U (bF f1 U) U U U (Z9 U U (bF f1 U) U U U (Z9 U U (bF f1 U) U U U (W5 (t := false) (vB false) (bF f1 U) ((if_neg Bool.false_ne_true).trans U) U (Z2 (Z6 U (Y6 (X1 (Z0 (W4 (a3 + 1) (by exact f0) U (i64_in _ (by omega)) U (Z3 (vI (a3 + 1)) U U (Z2 (n4 _ _ ⟨a8, (a3 + 1), (T3 a4 a3 (Y5 a6.1 a3)), b0, h3, c1, c4, Z4, hS, (by omega), c8, b8, a5, a7, b6, a9, d5, f7, f8, f9, g0, e3, e7, e8, e9, U⟩))))))))))))
 refine Z9 U U (bF c2 U) U U U (Z9 U U (bF c2 U) U U U (Z9 U U (bF c2 U) U U U (Z9 U U (bF c2 U) U U U (Z9 U U (bF c2 U) U U U (Z9 U U (bF c2 U) U U U (Z9 U U (bF c2 U) U U U (Z9 U U (bF c2 U) U U U (Z9 U U (bF c2 U) U U U (W5 (t := false) (vB false) (bF c2 U) ((if_neg Bool.false_ne_true).trans U) U (Z3 (vB false) U U (Z9 U U U U U U (Z9 U U U U U U (Z9 U U U U U U (W5 (t := false) (vB false) U ((if_neg Bool.false_ne_true).trans U) U (Z2 (Z6 U (Y6 (X1 (Z0 (W4 (a3 + 1) (by exact f0) U (i64_in _ (by omega)) U (Z3 (vI (a3 + 1)) U U (Z2 (n4 _ _ ⟨a8, (a3 + 1), (T3 a4 a3 (Y5 a6.1 a3)), b0, h3, c1, c4, Z4, hS, (by omega), c8, b8, a5, a7, b6, a9, d5, f7, f8, f9, g0, e3, e7, e8, e9, U⟩)))))))))))))))))))))))
 intro p2
 obtain ⟨m6, c7⟩ | ⟨m6, c7⟩ := ic c7
 refine Z8 (bT m6 U) (Z1 (Z0 (X5 P3 (by exact h9) (hS.get (mR mL)) U U (U5 (z := vA (Z7 .i64 (fun _ => 0))) (Z7 .i64 (fun _ => 0)).toArray Zm8.zero U hS U (fun i7 _ hS => W1 (v := vA (Z7 .i64 a6.1)) (vs := (Z7 .i64 a6.1).toArray) (cs := (Z7 .i64 (fun _ => 0)).toArray) P3 U U U hS U (R7 .i64 a6.1) U (fun _ hS => Z2 (Z1 (Z1 (Z0 (Z3 (vI a3) U U (W4 (a3 + 1) U U (i64_in _ (by omega)) U (Z3 (vI 0) U U (Z2 (Y8 ?_))))))))))))))
 obtain ⟨p3, d1, e0⟩ := bSm c7
 refine W3 (id := 4) (fun k f w => ∃ b5 b7 H1, R9 K a3 k b5 b7 = some p3 ∧ Sub H H1 ∧ St H1 w ([(i7, cA (Z7 .i64 b7) 222)] ++ ([(f4, cA (Z7 .i64 a4) 222)] ++ ([(f3, cA (Z7 .i64 a6.1) 222)] ++ (d8 ++ ([(b9, cA (M5 u6) 237)] ++ (b3 ++ L)))))) ∧ 0 ≤ b5 ∧ RdV .i64 H1 u6 r6 ∧ Y3 (Y4 .i64) H1 c3 a0.1 ∧ Y3 (X3 yT) H1 e2 a0.2 ∧ Q8 .i64 m1 c0 b3 ∧ Zi2 .i64 H1 c9 f5 (some a6) d8 ∧ H1 c5 = some (.cells h5 j8) ∧ tv f 0 = vQ c5 d2 ∧ tv f 5 = m1 ∧ tv f 6 = vP b9 ∧ tv f 7 = vP f3 ∧ tv f 8 = vI a6.2 ∧ tv f 9 = vP f4 ∧ tv f 10 = vI a8 ∧ tv f 11 = vI a3 ∧ tv f 12 = vI (Y5 a6.1 a3) ∧ tv f 13 = vP i7 ∧ tv f 21 = c9 ∧ tv f 28 = vA (Z7 .i64 a6.1) ∧ tv f 29 = vI a3 ∧ tv f 37 = vI (a3 + 1) ∧ tv f 38 = vI b5) (fun f w => ∃ b2 H1, p3 = .go b2 ∧ Sub H H1 ∧ St H1 w ([(i7, cA (Z7 .i64 b2) 222)] ++ ([(f4, cA (Z7 .i64 a4) 222)] ++ ([(f3, cA (Z7 .i64 a6.1) 222)] ++ (d8 ++ ([(b9, cA (M5 u6) 237)] ++ (b3 ++ L)))))) ∧ RdV .i64 H1 u6 r6 ∧ Y3 (Y4 .i64) H1 c3 a0.1 ∧ Y3 (X3 yT) H1 e2 a0.2 ∧ Q8 .i64 m1 c0 b3 ∧ Zi2 .i64 H1 c9 f5 (some a6) d8 ∧ H1 c5 = some (.cells h5 j8) ∧ tv f 0 = vQ c5 d2 ∧ tv f 5 = m1 ∧ tv f 6 = vP b9 ∧ tv f 7 = vP f3 ∧ tv f 8 = vI a6.2 ∧ tv f 9 = vP f4 ∧ tv f 10 = vI a8 ∧ tv f 11 = vI a3 ∧ tv f 12 = vI (Y5 a6.1 a3) ∧ tv f 13 = vP i7 ∧ tv f 21 = c9 ∧ tv f 28 = vA (Z7 .i64 a6.1) ∧ tv f 29 = vI a3) U ?_ ?_ K ?_ ?_
 rintro f w ⟨b5, b7, H1, d1, _⟩
 rw [R9] at d1; cases d1
 rintro k _ _ y1 y2 ⟨b5, b7, p4, d1, Z4, hS, _, b8, a5, a7, b1, b6, a9, k3, k4, k5, k6, k7, k8, i8, i9, j0, g8, j1, j2, j3, j4, g9⟩
 rw [R9] at d1
 refine Z1 (Z0 (V4 (k := .i64) (a := b5) (b := (a3 + 1)) (by exact g9) (by exact j4) U (Z2 (Z1 ?_))))
 obtain ⟨m7, d1⟩ | ⟨m7, d1⟩ := ic d1
 refine Z8 (bT m7 U) (Y6 (Z1 (Y8 (Z1 (Z0 (Z3 (vI b5) (by exact g9) U (Z5 (vI b5) U U (Z2 (Z0 (Z3 (vI b5) U U ?_))))))))))
 obtain ⟨_, d1⟩ := gd d1
 refine U3 Zm9 (by exact g8) U (by omega) (by omega) U (J7 (v := vI 0) (cs := (Z7 .i64 b7).toArray) (cs' := (Z7 .i64 (T3 b7 b5 0)).toArray) ty3 U U hS U (Zv6 U) (by simp [Z7, M5]; omega) (Zj0 (by omega) (by omega)) (fun _ hS => Z2 (X1 (Z0 (W4 (b5 + 1) (by exact g9) U (i64_in _ (by omega)) U (Z3 (vI (b5 + 1)) U U (Z2 (y1 _ _ ⟨(b5 + 1), (T3 b7 b5 0), p4, d1, Z4, hS, (by omega), b8, a5, a7, b1, b6, a9, k3, k4, k5, k6, k7, k8, i8, i9, j0, g8, j1, j2, j3, j4, U⟩))))))))
 refine Z6 (bF m7 U) (W2 U ?_)
 cases d1
 exact y2 _ _ ⟨b7, p4, U, Z4, hS, b8, a5, a7, b1, b6, a9, k3, k4, k5, k6, k7, k8, i8, i9, j0, g8, j1, j2, j3⟩
 exact ⟨0, a6.1, m3, d1, Z4, hS, (by omega), b8, a5, a7, b1, b6, a9, h6, h7, h8, h9, k1, k2, i5, U, U, U, g5, g6, d7, U, U⟩
 rintro _ _ ⟨b2, _, rfl, Z4, hS, b8, a5, a7, b1, b6, a9, i0, n9, k9, o0, o1, l0, m8, h0, j5, m9, n0, n1, n2⟩
 dsimp only [Ex.elim] at e0
 refine Z1 (Z0 (X5 P3 (by exact l0) (hS.get (mR mL)) U U (U5 (z := vA (Z7 .i64 (fun _ => 0))) (Z7 .i64 (fun _ => 0)).toArray Zm8.zero U hS U (fun p5 _ hS => W1 (v := vA (Z7 .i64 a4)) (vs := (Z7 .i64 a4).toArray) (cs := (Z7 .i64 (fun _ => 0)).toArray) P3 U U U hS U (R7 .i64 a4) U (fun _ hS => Z2 (Z1 (Z0 (Z3 (vI a3) (by exact h0) U (Z3 (vI (Y5 a6.1 a3)) (by exact j5) U (Zg8 (i64.wrap ((Y5 a6.1 a3) - 1)) U U U U (U3 Zm9 U U (by omega) (by omega) U (J7 (v := vI (i64.wrap ((Y5 a6.1 a3) - 1))) (cs := (Z7 .i64 a4).toArray) (cs' := (Z7 .i64 (T3 a4 a3 (i64.wrap ((Y5 a6.1 a3) - 1)))).toArray) ty3 U U hS U (Zv6 U) (by simp [Z7, M5]; omega) (Zj0 (by omega) (by omega)) (fun _ hS => Z2 (Z1 ?_))))))))))))))
 obtain ⟨h4, q7, e0⟩ := bSm e0
 obtain ⟨g2, q8, e0⟩ := bSm e0
 refine W6 22 (S8 [(49, MP.mk0), mE 50 (vA (Z7 .i64 (T3 a4 a3 (i64.wrap ((Y5 a6.1 a3) - 1))))), (51, MP.mp .i64 ((Zc9 ([] : MpT) (T3 a4 a3 (i64.wrap ((Y5 a6.1 a3) - 1))) 1))), mE 52 (vQ c5 d2), mE 53 (vQ c5 d2), mE 54 (vQ c5 (d2 + 0)), mE 55 c3, mE 56 (vI a3), mE 57 (vQ b9 (0 + (a3).toNat * 1)), (58, MP.mp .i64 ((Yf6 r6 a3))), (59, MP.mp .i64 h4), mE 60 (vQ c5 d2), mE 61 (vQ c5 d2), mE 62 (vQ c5 (d2 + 0)), mE 63 c3, (64, MP.mk0), mE 65 (vA (Z7 .i64 b2)), (66, MP.mp .i64 ((Zc9 ([] : MpT) b2 1))), (67, MP.mp .i64 g2), (16, MP.mp .i64 g2)]) [Co.fz 0 49 2 (MP.mp .i64 ((Zc9 ([] : MpT) (T3 a4 a3 (i64.wrap ((Y5 a6.1 a3) - 1))) 1))), Co.fz 16 64 18 (MP.mp .i64 ((Zc9 ([] : MpT) b2 1)))] mixed U (Zy5 (ns := [(0, 49, 2, 0, 49), (16, 64, 18, 16, 64)]) U U) U hS (W7 U ?_ (W7 U ?_ (Yj9 U ?_ (W7 U ?_ (W7 U ?_ (W7 U ?_ (W7 U ?_ (W7 U ?_ (W7 U ?_ (W7 U ?_ (W7 U ?_ (W7 U ?_ (W7 U ?_ (W7 U ?_ (W7 U ?_ (W7 U ?_ (W7 U ?_ (W7 U ?_ (Yj9 U ?_ (W7 U ?_ (W7 U ?_ (W7 U ?_ W9)))))))))))))))))))))) ?_
 intro _ _ _ _ _ hS _ _ hcq
 refine Yk1 hS U fun _ _ hS => qn (.refl _) U hS ⟨_, U⟩
 exact X4 fun S B => X5 P3 (evT (B 15 U) U) (S.get (mR mL)) U U (qz S)
 intro n5 y3 u3 y4 _ hS _ p6 hcq
 have Z4 := Sub.refl u3
 obtain ⟨l6, l7⟩ := p6 0 49 U U
 have l7 : n5 49 = Value.map (some l6) := l7
 have hS : St u3 y3 (Xj9 (n5 49) ++ (y4 ++ ([(p5, cA (Z7 .i64 (T3 a4 a3 (i64.wrap ((Y5 a6.1 a3) - 1)))) 222)] ++ ([(i7, cA (Z7 .i64 b2) 222)] ++ ([(f4, cA (Z7 .i64 a4) 222)] ++ ([(f3, cA (Z7 .i64 a6.1) 222)] ++ (d8 ++ ([(b9, cA (M5 u6) 237)] ++ (b3 ++ L))))))))) := hS
 rw [l7] at hS
 have v1 : Q8 .i64 (Value.map (some l6)) [] [(l6, .map #[] 0)] := Q8.new l6
 have y5 : tv n5 49 = Value.map (some l6) := l7
 refine Xd4 (a := (T3 a4 a3 (i64.wrap ((Y5 a6.1 a3) - 1)))) (m := 1) Zs5 y5 (eM (p6 1 50 U U)) U v1 hS ?_
 intro _ _ v2 hS
 obtain ⟨_, v3, hS, v4⟩ := v2.freeze hS
 have Z4 := Z4.trans v3
 exact Z2 ⟨_, U, U, Z4, hS, by show N0 _ _ (n5 49) _; rw [l7]; exact v4⟩
 intro y6 _ y7 _ _ hS _ _ hcq
 obtain ⟨p7, p8⟩ : ∃ v, tv y6 49 = v := ⟨_, U⟩
 have q9 : N0 .i64 y7 p7 ((Zc9 ([] : MpT) (T3 a4 a3 (i64.wrap ((Y5 a6.1 a3) - 1))) 1)) := p8 ▸ (hcq 2 _ U U)
 refine Z3 p7 p8 U (qn (.refl _) U hS q9)
 exact X4 fun S B => Z3 (vQ c5 d2) (evT (B 0 U) i0) U (qz S)
 exact Y7 fun S V => V0 (eM (V 4 52 U U)) U (qz S)
 exact Y7 fun S V => Y2 N8 (eM (V 5 53 U U)) U (qz S)
 exact P0 fun s S V => Y1 c3 Q9 (eM (V 6 54 U U)) (S.froz _ _ (s.1 _ _ a9)) (i4 0 (show 0 < 2 by decide)) U (qz S)
 exact X4 fun S B => Z3 (vI a3) (evT (B 11 U) h0) U (qz S)
 exact K6 fun S B V => U3 Va1 (evT (B 6 U) k9) (eM (V 8 56 U U)) (by omega) (by omega) U (qz S)
 intro _ _ _ _ r0 hS _ r1 hcq
 have b8 := b8.mono r0
 have r2 := RdV.at b8 a3
 refine Y1 (Wl9 u6 a3) Wz8 (eM (r1 9 57 U U)) (hS.get (o := cA (M5 u6) 237) (mR (mR (mR (mR (mR (mR mL))))))) (Wv4 (by omega) (by omega)) U (qn (.refl _) U hS r2)
 intro _ _ v5 _ r3 hS _ l2 hcq
 have Z4 := Sub.refl v5
 have a5 := a5.mono r3
 obtain ⟨_, v6, r4⟩ := gvM (l2 3 51 U U)
 obtain ⟨_, v7, r5⟩ := gvM (l2 10 58 U U)
 refine U9 call128 (I3 v6 (eM (l2 7 55 U U)) v7) U (Ye9 q7 r4 a5 r5 hS) ?_
 rintro _ _ ⟨_, _, _, rfl, r7, hS, r8⟩
 refine ⟨_, U, ?_⟩
 have Z4 := Z4.trans r7
 obtain ⟨_, r9, hS, s2⟩ := r8.freeze hS
 have Z4 := Z4.trans r9
 exact Z2 ⟨59, _, _, U, U, Z4, hS, s2⟩
 exact X4 fun S B => Z3 (vQ c5 d2) (evT (B 0 U) i0) U (qz S)
 exact Y7 fun S V => V0 (eM (V 12 60 U U)) U (qz S)
 exact Y7 fun S V => Y2 N8 (eM (V 13 61 U U)) U (qz S)
 exact P0 fun s S V => Y1 c3 Q9 (eM (V 14 62 U U)) (S.froz _ _ (s.1 _ _ a9)) (i4 0 (show 0 < 2 by decide)) U (qz S)
 intro _ _ _ _ _ hS _ _ hcq
 refine Yk1 hS U fun _ _ hS => qn (.refl _) U hS ⟨_, U⟩
 exact X4 fun S B => X5 P3 (evT (B 13 U) m9) (S.get (mR (mR mL))) U U (qz S)
 intro l3 v8 p9 v9 _ hS _ n6 hcq
 have Z4 := Sub.refl p9
 obtain ⟨j6, j7⟩ := n6 16 64 U U
 have j7 : l3 64 = Value.map (some j6) := j7
 have hS : St p9 v8 (Xj9 (l3 64) ++ (v9 ++ ([(p5, cA (Z7 .i64 (T3 a4 a3 (i64.wrap ((Y5 a6.1 a3) - 1)))) 222)] ++ ([(i7, cA (Z7 .i64 b2) 222)] ++ ([(f4, cA (Z7 .i64 a4) 222)] ++ ([(f3, cA (Z7 .i64 a6.1) 222)] ++ (d8 ++ ([(b9, cA (M5 u6) 237)] ++ (b3 ++ L))))))))) := hS
 rw [j7] at hS
 have s3 : Q8 .i64 (Value.map (some j6)) [] [(j6, .map #[] 0)] := Q8.new j6
 have w0 : tv l3 64 = Value.map (some j6) := j7
 refine Xd4 (a := b2) (m := 1) Zs5 w0 (eM (n6 17 65 U U)) U s3 hS ?_
 intro _ _ s4 hS
 obtain ⟨_, s5, hS, s6⟩ := s4.freeze hS
 have Z4 := Z4.trans s5
 exact Z2 ⟨_, U, U, Z4, hS, by show N0 _ _ (l3 64) _; rw [j7]; exact s6⟩
 intro w1 _ w2 _ _ hS _ _ hcq
 obtain ⟨q1, q2⟩ : ∃ v, tv w1 64 = v := ⟨_, U⟩
 have s7 : N0 .i64 w2 q1 ((Zc9 ([] : MpT) b2 1)) := q2 ▸ (hcq 18 _ U U)
 refine Z3 q1 q2 U (qn (.refl _) U hS s7)
 intro _ _ w3 _ s8 hS _ l4 hcq
 have Z4 := Sub.refl w3
 have a5 := a5.mono s8
 obtain ⟨_, w4, s9⟩ := gvM (l4 11 59 U U)
 obtain ⟨_, w5, t0⟩ := gvM (l4 19 66 U U)
 refine U9 call128 (I3 w4 (eM (l4 15 63 U U)) w5) U (Ye9 q8 s9 a5 t0 hS) ?_
 rintro _ _ ⟨_, _, _, rfl, t1, hS, t4⟩
 refine ⟨_, U, ?_⟩
 have Z4 := Z4.trans t1
 obtain ⟨_, t5, hS, t6⟩ := t4.freeze hS
 have Z4 := Z4.trans t5
 exact Z2 ⟨67, _, _, U, U, Z4, hS, t6⟩
 intro _ _ _ _ _ hS _ t7 hcq
 obtain ⟨w6, w7, t8⟩ := gvM (t7 20 67 U U)
 refine Z5 w6 w7 U (qn (.refl _) U hS t8)
 intro _ w8 w9 f2 hS c6 t9 hcq
 have hS : St w9 w8 ([(p5, cA (Z7 .i64 (T3 a4 a3 (i64.wrap ((Y5 a6.1 a3) - 1)))) 222)] ++ ([(i7, cA (Z7 .i64 b2) 222)] ++ ([(f4, cA (Z7 .i64 a4) 222)] ++ ([(f3, cA (Z7 .i64 a6.1) 222)] ++ (d8 ++ ([(b9, cA (M5 u6) 237)] ++ (b3 ++ L))))))) := hS
 have Z4 := Z4.trans f2
 have a5 := a5.mono f2
 have a7 := a7.mono f2
 have b8 := b8.mono f2
 have b1 := b1.mono f2
 have b6 := b6.mono f2
 have a9 := f2.1 _ _ a9
 have q3 := evT (c6 5 U) n9
 have q4 := evT (c6 8 U) o1
 have q5 := evT (c6 10 U) m8
 have q6 := evT (c6 12 U) j5
 obtain ⟨x0, x1, l5⟩ := gvM (t9 21 16 (by decide) U)
 refine Z2 (Z0 (Z3 m1 (by exact q3) U (Z3 x0 (by exact x1) U (Z3 (vI a8) (by exact q5) U (Z3 (vI a6.2) (by exact q4) U (Zi4 (i64.wrap (a8 * a6.2)) U U U U (Z3 (vI (Y5 a6.1 a3)) (by exact q6) U (Zi4 (i64.wrap ((i64.wrap (a8 * a6.2)) * (Y5 a6.1 a3))) U U U U ?_))))))))
 obtain ⟨_, u0, e0⟩ := bSm e0
 refine X2 call206 (S4 U) U (Ye6 u0  hS) ?_
 rintro _ _ _ d9 hS rfl
 have Z4 := Z4.trans d9
 have a5 := a5.mono d9
 have a7 := a7.mono d9
 have l5 := l5.mono d9
 have b8 := b8.mono d9
 have b1 := b1.mono d9
 have b6 := b6.mono d9
 have a9 := d9.1 _ _ a9
 obtain ⟨i3, u1, e0⟩ := bSm e0
 have hS := hS.perm Wy5
 refine U9 call129 (I3 U U U) U (Yu9 u1 b1 l5 hS) ?_
 rintro _ _ ⟨x2, x3, rfl, g1, hS, u2⟩
 refine ⟨_, U, ?_⟩
 have Z4 := Z4.trans g1
 have a5 := a5.mono g1
 have a7 := a7.mono g1
 have b8 := b8.mono g1
 have b6 := b6.mono g1
 have a9 := g1.1 _ _ a9
 have hS := hS.perm Wy5.symm
 refine Z2 ?_
 have hS := St.dA hS
 have hS := St.dA hS
 exact p2 _ _ ⟨i3, x2, x3, e0, Z4, hS, u2, b8, a5, a7, b6, a9, (evT (c6 0 U) i0), q3, (evT (c6 6 U) k9), (evT (c6 7 U) o0), q4, (evT (c6 9 U) l0), q5, (evT (c6 11 U) h0), q6, (evT (c6 21 U) n0), (evT (c6 28 U) n1), (evT (c6 29 U) n2)⟩
 refine Z6 (bF m6 U) (Y6 (p2 _ _ ⟨c0, m3, b3, c7, Z4, hS, b1, b8, a5, a7, b6, a9, h6, h7, h8, h9, k1, k2, i5, U, U, g5, g6, d7⟩))
 refine Z6 (bF m4 U) (W2 U ?_)
 cases c7
 exact y0 _ _ ⟨a4, c0, m3, b3, U, Z4, hS, b1, b8, a5, a7, b6, a9, h6, h7, h8, g5⟩
 exact ⟨1, 0, (fun _ => 0), b4, p0, d0, c7, Z4, hS, (by omega), i2, b8, a5, a7, b6, a9, n7, k0, n8, U, U, U, U, g4, U, U⟩
 rintro _ _ ⟨e4, d4, x4, e6, rfl, Z4, hS, l9, b8, a5, a7, b6, a9, o2, o3, o4, n3⟩
 dsimp only [Ex.elim] at p1
 refine X1 ?_
 have hS := St.dA hS
 have hS := St.dA hS
 exact x8 _ _ ⟨f5, d4, x4, d8, e6, p1, Z4, hS, b6.drop, l9, b8, a5, a7, a9, o2, o3, o4, n3⟩
 exact ⟨a1, ([] : MpT), H6, x7, C3, d6, Z4, hS, u4, o7, b8, a5, a7, a9, U, U, U, U⟩
 rintro _ _ ⟨e1, _, f6, g3, rfl, Z4, hS, _, m0, b8, o5⟩
 dsimp only [Ex.elim] at o9
 refine Z1 (Z0 (Z3 m1 (by exact o5) U (Z5 m1 U U (Z2 (Y9 (vs := [m1]) func116 Ut ?_)))))
 have hS := hS.perm Zc0
 have hS := St.dropMid hS
 have hS := St.dropMid hS
 cases o9
 exact ⟨_, _, _, U, Z4, hS, m0⟩
end Go.Proofs.YtabofnehiclkiaaGreat
