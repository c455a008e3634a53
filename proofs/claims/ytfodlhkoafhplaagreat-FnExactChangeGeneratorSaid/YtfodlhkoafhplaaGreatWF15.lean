/- Walks of functions: each computes its pure function, if that gives a value. -/
import Derived.Test.YtfodlhkoafhplaaGreatWTy
import Derived.Test.YtfodlhkoafhplaaGreatWF12
import Derived.Test.YtfodlhkoafhplaaGreatWF9
import Derived.Test.YtfodlhkoafhplaaGreatWF2
import Derived.Test.YtfodlhkoafhplaaGreatWF10
import Derived.Test.YtfodlhkoafhplaaGreatWF14
import Derived.Test.YtfodlhkoafhplaaGreatWF3
import Derived.Test.YtfodlhkoafhplaaGreatWF13
import Derived.Test.YtfodlhkoafhplaaGreatWF1
namespace Go.Proofs.YtfodlhkoafhplaaGreat
open Go
set_option linter.unusedSimpArgs false
set_option linter.unusedVariables false
set_option maxRecDepth 100000
set_option maxHeartbeats 8000000
def R5 (K : Nat) (a3 : Int) : Nat → Int → A8 → Option (Ex MpT (A8))
 | 0, _, _ => none
 | k + 1, b4, b7 => (if b4 < (a3 + 1) then (if b4 < 8 then R5 K a3 k (b4 + 1) (T8 b7 b4 0) else none) else some (.go b7))
def N3 (K : Nat) (i2 : Int → Int → A8 → MpT → Option (Ex MpT (A8 × MpT))) (a0 : ((List Int) × (List MpT))) (a9 : Int) (a3 : Int) (a4 : A8) (a5 : (A8 × Int)) (b0 : MpT) : Option (Ex MpT (A8 × MpT)) := (if a3 < (a0.1.length : Int) then (if (((rd a0.1 a3)).tmod 2) = 1 then (if (((Y5 a5.1 a3)).tmod 2) = 1 then i2 (IntKind.i64.wrap (0 - a9)) (a3 + 1) (T8 a4 a3 (Y5 a5.1 a3)) b0 else i2 a9 (a3 + 1) (T8 a4 a3 (Y5 a5.1 a3)) b0) else i2 a9 (a3 + 1) (T8 a4 a3 (Y5 a5.1 a3)) b0) else i2 a9 (a3 + 1) (T8 a4 a3 (Y5 a5.1 a3)) b0)
def T1 (K : Nat) (a0 : ((List Int) × (List MpT))) (r6 : M8) (a5 : (A8 × Int)) : Nat → Int → Int → A8 → MpT → Option (Ex MpT (A8 × MpT))
 | 0, _, _, _, _ => none
 | k + 1, a9, a3, a4, c1 => (if a3 < 8 then (if 0 < (Y5 a5.1 a3) then ((R5 K a3 K 0 a5.1).bind (Ex.elim (fun r => some (.ret r)) (fun s => (fun (b2 : A8) => ((M2 K (A9 ([] : MpT) (T8 a4 a3 (IntKind.i64.wrap ((Y5 a5.1 a3) - 1))) 1) a0.1 (Zk6 r6 a3)).bind fun h5 => ((M2 K h5 a0.1 (A9 ([] : MpT) b2 1)).bind fun g3 => ((Zk5 K (IntKind.i64.wrap ((IntKind.i64.wrap (a9 * a5.2)) * (Y5 a5.1 a3)))).bind fun i4 => ((Q3 K c1 g3 i4).bind fun i5 => N3 K (T1 K a0 r6 a5 k) a0 a9 a3 a4 a5 i5))))) s))) else N3 K (T1 K a0 r6 a5 k) a0 a9 a3 a4 a5 c1) else some (.go (a4, c1)))
def S4 (K : Nat) (a0 : ((List Int) × (List MpT))) (r6 : M8) : Nat → MpT → MpT → Option (Ex MpT (MpT))
 | 0, _, _ => none
 | k + 1, [], b5 => some (.go b5)
 | k + 1, a5 :: f6, b5 => ((T1 K a0 r6 a5 K 1 0 (fun _ => 0) b5).bind (Ex.elim (fun r => some (.ret r)) (fun s => (fun (e5 : A8) (d4 : MpT) => S4 K a0 r6 k f6 d4) s.1 s.2)))
theorem Yd4 {K : Nat} {a0 : ((List Int) × (List MpT))} {r6 : M8} {b5 : MpT} {k : Nat} {zp zq : MpT} {o : Ex MpT (MpT)} (hp : zp.Perm zq) (q : S4 K a0 r6 k zp b5 = some o) : S4 K a0 r6 k zq b5 = some o := by
 have h2 : ∀ (i : Int) (k : Nat) (j : Int) (b : A8) e, R5 K i k j b = some e → ∃ y, e = .go y := by
  intro i k
  induction k with
  | zero => intro j b e h; rw [R5] at h; cases h
  | succ k ih =>
   intro j b e h
   rw [R5] at h
   split at h
   split at h
   exact ih _ _ _ h
   cases h
   cases h; exact ⟨_, rfl⟩
 have hj : ∀ (i2 : Int → Int → A8 → MpT → Option (Ex MpT (A8 × MpT))) (a b : Int) (c : A8) (z : A8 × Int), (∀ a b c, Zn3 K (fun (x : A8) s => (x, s)) (fun s => i2 a b c s)) →
  Zn3 K (fun (x : A8) s => (x, s)) (fun s => N3 K i2 a0 a b c z s) := by
  intro i2 a b c z h
  unfold N3
  exact .ite (.ite (.ite (h _ _ _) (h _ _ _)) (h _ _ _)) (h _ _ _)
 have hl : ∀ (z : A8 × Int) (k : Nat) (a b : Int) (c : A8), Zn3 K (fun (x : A8) s => (x, s)) (fun s => T1 K a0 r6 z k a b c s) := by
  intro z k
  induction k with
  | zero => intro a b c; exact ⟨none, fun s => (show T1 K a0 r6 z 0 a b c s = none by rw [T1])⟩
  | succ k ih =>
   intro a b c
   have e : (fun s => T1 K a0 r6 z (k + 1) a b c s) = fun s => (if b < 8 then (if 0 < (Y5 z.1 b) then ((R5 K b K 0 z.1).bind fun e => (match e with
    | .ret r => some (.ret r)
    | .go y => ((M2 K (A9 ([] : MpT) (T8 c b (IntKind.i64.wrap ((Y5 z.1 b) - 1))) 1) a0.1 (Zk6 r6 b)).bind fun h5 => ((M2 K h5 a0.1 (A9 ([] : MpT) y 1)).bind fun g3 => ((Zk5 K (IntKind.i64.wrap ((IntKind.i64.wrap (a * z.2)) * (Y5 z.1 b)))).bind fun i4 => ((Q3 K s g3 i4).bind fun i5 => N3 K (T1 K a0 r6 z k) a0 a b c z i5)))))) else N3 K (T1 K a0 r6 z k) a0 a b c z s) else some (.go (c, s))) := by
    funext s
    rw [T1]
    split
    split
    cases R5 K b K 0 z.1 with
    | none => rfl
    | some e => cases e <;> rfl
    rfl
    rfl
   rw [e]
   refine .ite (.ite ?_ (hj _ _ _ _ _ ih)) (.go (h := fun (x : A8) s => (x, s)) c)
   cases hq : R5 K b K 0 z.1 with
   | none => exact .fail
   | some e =>
    obtain ⟨y, rfl⟩ := h2 _ _ _ _ _ hq
    simp only [Option.bind_some]
    exact .const fun h5 => .const fun g3 => .const fun i4 => .bind (Yv6 _ _) (hj _ _ _ _ _ ih)
 exact (Zz4 (K := K) (fun k zs s => S4 K a0 r6 k zs s) (by intros; rw [S4])
  (fun z => by
   obtain ⟨F, hF, hs⟩ := (hl z K 1 0 (fun _ => 0)).step (fun s => s.2) (fun _ _ => rfl)
   refine ⟨F, hF, fun k zs s => ?_⟩
   rw [S4]
   exact hs _ (S4 K a0 r6 k zs) s) hp k b5).symm.trans q
def Zd0 (K : Nat) (a0 : ((List Int) × (List MpT))) (a1 : MpT) : Option MpT := ((K6 K (a0.1, a0.2)).bind fun r6 => ((S4 K a0 r6 K a1 ([] : MpT)).bind (Ex.elim (fun r => some r) (fun s => (fun (e2 : MpT) => some e2) s))))
theorem Zx6 {K : Nat} {a0 : ((List Int) × (List MpT))} {a1 : MpT} {r : MpT} (q0 : Zd0 K a0 a1 = some r) {H : FH} {w : World} {L : OL} {s0 : Value} {s1 : Value} (z7 : Zq0 (Zh7 (X6 (X3 .i64)) (X6 (X6 yT))) H s0 a0) (o8 : Q1 .i64 H s1 a1) (hS : St H w L) :
 Calls Tryz.prog 120 #[s0, s1] w (Yq8 .i64 r H L) := by
 obtain ⟨c4, d1, h6, k0, _, rfl, a8, ⟨_, _, rfl, ⟨c3, rfl, a6⟩, ⟨e3, rfl, a7⟩⟩, i6⟩ := z7
 have Z2 := Sub.refl H
 refine X0 Tryz.func120 rfl Tryz.ntmps120 rfl ?_
 unfold Zd0 at q0
 refine Z3 (Z1 (Z6 (Value.map none) rfl rfl (Z0 (Z3 (Z1 ?_)))))
 refine Zv6 (k := .i64) hS rfl ?_
 intro m1 w2 C3 o9 hS
 refine Z4 (Value.pointer (some ⟨c4, d1, none⟩)) rfl rfl ?_
 obtain ⟨r6, z8, q0⟩ := bind_some q0
 refine Y8 Tryz.call146 (Q8 rfl) rfl (Yc9 z8 ⟨_, _, _, _, _, rfl, a8, ⟨_, _, rfl, ⟨_, rfl, a6⟩, ⟨_, rfl, a7⟩⟩, i6⟩ hS) ?_
 rintro e6 w7 ⟨v6, H6, rfl, k1, hS, ⟨_, rfl, ⟨u6, rfl, b8⟩⟩⟩
 refine ⟨_, rfl, ?_⟩
 have Z2 := Z2.trans k1
 have a6 := a6.mono k1
 have a7 := a7.mono k1
 have o8 := o8.mono k1
 have o9 := o9.mono k1
 have a8 := k1.1 _ _ a8
 have hn8 : RdV .i64 H6 J4 (fun _ => ([] : MpT)) := RdV.nil
 refine W9 (z := vA (U2 J4)) (U2 J4).toArray Yq5.zero rfl hS rfl ?_
 intro b9 w10 hS
 refine Z6 (m1) rfl rfl ?_
 refine W1 (v := vA (U2 u6)) (vs := (U2 u6).toArray) (cs := (U2 J4).toArray) Zv8 rfl rfl rfl hS rfl (Ye4 b8) rfl ?_
 intro w12 hS
 refine Z0 (Z3 (Z3 (Z1 (Z4 (s1) rfl rfl ?_))))
 refine Yc1 Zm8 rfl o8 hS rfl ?_
 intro c8 w14 z9 w3 hS
 refine Z0 (Y7 ?_)
 obtain ⟨p0, d6, p1⟩ := bind_some q0
 refine W7 (id := 0) (fun k f w => ∃ (e7 : MpT) (b5 : MpT) (H1 : FH) (d2 : OL) (c9 : OL), S4 K a0 r6 k e7 b5 = some p0 ∧ Sub H H1 ∧ St H1 w (d2 ++ ([(b9, cA (U2 u6) 182)] ++ (c9 ++ L))) ∧ Zc7 .i64 H1 c8 e7 none d2 ∧ R1 .i64 m1 b5 c9 ∧ RdV .i64 H1 u6 r6 ∧ Y3 (X3 .i64) H1 c3 a0.1 ∧ Y3 (X6 yT) H1 e3 a0.2 ∧ H1 c4 = some (.cells h6 k0) ∧ ev f (.tmp 0) = Value.pointer (some ⟨c4, d1, none⟩) ∧ ev f (.tmp 5) = m1 ∧ ev f (.tmp 6) = vP b9 ∧ ev f (.tmp 21) = c8) (fun f w => ∃ (e2 : MpT) (H1 : FH) (f7 : OL) (g4 : OL), p0 = .go e2 ∧ Sub H H1 ∧ St H1 w (f7 ++ ([(b9, cA (U2 u6) 182)] ++ (g4 ++ L))) ∧ Zc7 .i64 H1 c8 ([] : MpT) none f7 ∧ R1 .i64 m1 e2 g4 ∧ RdV .i64 H1 u6 r6 ∧ ev f (.tmp 5) = m1) rfl ?_ ?_ K ?_ ?_
 rintro f w ⟨e7, b5, H1, d2, c9, d6, _⟩
 rw [S4] at d6; cases d6
 rintro k a46 a47 ih0 hx0 ⟨e7, b5, p2, d2, c9, d6, Z2, hS, h3, i3, b8, a6, a7, a8, n9, k2, o0, g5⟩
 refine Z3 (Z1 ?_)
 refine Yh0 (by exact g5) h3 hS rfl ?_ ?_
 intro w4; subst w4
 rw [S4] at d6
 refine U3 (Value.bool false) rfl rfl rfl (Z0 (Z3 (Z9 rfl ?_)))
 refine W4 rfl ?_
 have hz := Option.some.inj d6
 subst hz
 exact hx0 _ _ ⟨b5, p2, d2, c9, rfl, Z2, hS, h3, i3, b8, k2⟩
 intro a5 f6 w21 d8 w5 b6 hS
 replace d6 := Yd4 w5 d6
 rw [S4] at d6
 refine U3 (Value.bool true) rfl rfl rfl (Z0 (Z3 (Y0 rfl (Y6 (Y7 (Z3 (Z1 ?_)))))))
 refine Yc3 (by exact g5) b6 hS rfl (U3 (vA (Z7 .i64 a5.1)) rfl rfl rfl (U3 (vI a5.2) rfl rfl rfl ?_))
 refine W9 (z := vA (Z7 .i64 (fun _ => 0))) (Z7 .i64 (fun _ => 0)).toArray Zl0.zero rfl hS rfl ?_
 intro f4 w26 hS
 refine W1 (v := vA (Z7 .i64 a5.1)) (vs := (Z7 .i64 a5.1).toArray) (cs := (Z7 .i64 (fun _ => 0)).toArray) N2 rfl rfl rfl hS rfl (S8 .i64 a5.1) rfl ?_
 intro w28 hS
 refine Z6 (vI a5.2) rfl rfl (Z0 (Z3 (Z1 ?_)))
 refine Q2 (vA (Z7 .i64 (fun _ => 0))) Yx1 rfl ?_
 refine W9 (z := vA (Z7 .i64 (fun _ => 0))) (Z7 .i64 (fun _ => 0)).toArray Zl0.zero rfl hS rfl ?_
 intro f5 w30 hS
 refine W1 (v := vA (Z7 .i64 (fun _ => 0))) (vs := (Z7 .i64 (fun _ => 0)).toArray) (cs := (Z7 .i64 (fun _ => 0)).toArray) N2 rfl rfl rfl hS rfl (S8 .i64 (fun _ => 0)) rfl ?_
 intro w32 hS
 refine Z6 (vI 1) rfl rfl (Z0 (Z3 (Z1 ?_)))
 refine X8 N2 rfl (hS.get (mR mL)) rfl rfl (Z4 (vI 0) rfl rfl (Z0 (Y7 ?_)))
 obtain ⟨m7, d0, p3⟩ := bind_some d6
 refine W7 (id := 2) (fun k f w => ∃ (a9 : Int) (a3 : Int) (a4 : A8) (c1 : MpT) (H1 : FH) (b3 : OL), T1 K a0 r6 a5 k a9 a3 a4 c1 = some m7 ∧ Sub H H1 ∧ St H1 w ([(f5, cA (Z7 .i64 a4) 188)] ++ ([(f4, cA (Z7 .i64 a5.1) 188)] ++ (d8 ++ ([(b9, cA (U2 u6) 182)] ++ (b3 ++ L))))) ∧ 0 ≤ a3 ∧ R1 .i64 m1 c1 b3 ∧ RdV .i64 H1 u6 r6 ∧ Y3 (X3 .i64) H1 c3 a0.1 ∧ Y3 (X6 yT) H1 e3 a0.2 ∧ Zc7 .i64 H1 c8 f6 (some a5) d8 ∧ H1 c4 = some (.cells h6 k0) ∧ ev f (.tmp 0) = Value.pointer (some ⟨c4, d1, none⟩) ∧ ev f (.tmp 5) = m1 ∧ ev f (.tmp 6) = vP b9 ∧ ev f (.tmp 7) = vP f4 ∧ ev f (.tmp 8) = vI a5.2 ∧ ev f (.tmp 9) = vP f5 ∧ ev f (.tmp 10) = vI a9 ∧ ev f (.tmp 21) = c8 ∧ ev f (.tmp 28) = vA (Z7 .i64 a5.1) ∧ ev f (.tmp 29) = vI a3) (fun f w => ∃ (e5 : A8) (d4 : MpT) (H1 : FH) (e8 : OL), m7 = .go (e5, d4) ∧ Sub H H1 ∧ St H1 w ([(f5, cA (Z7 .i64 e5) 188)] ++ ([(f4, cA (Z7 .i64 a5.1) 188)] ++ (d8 ++ ([(b9, cA (U2 u6) 182)] ++ (e8 ++ L))))) ∧ R1 .i64 m1 d4 e8 ∧ RdV .i64 H1 u6 r6 ∧ Y3 (X3 .i64) H1 c3 a0.1 ∧ Y3 (X6 yT) H1 e3 a0.2 ∧ Zc7 .i64 H1 c8 f6 (some a5) d8 ∧ H1 c4 = some (.cells h6 k0) ∧ ev f (.tmp 0) = Value.pointer (some ⟨c4, d1, none⟩) ∧ ev f (.tmp 5) = m1 ∧ ev f (.tmp 6) = vP b9 ∧ ev f (.tmp 21) = c8) rfl ?_ ?_ K ?_ ?_
 rintro f w ⟨a9, a3, a4, c1, H1, b3, d0, _⟩
 rw [T1] at d0; cases d0
 rintro k a48 a49 n5 hx1 ⟨a9, a3, a4, c1, m8, b3, d0, Z2, hS, z5, b1, b8, a6, a7, b6, a8, h7, h8, h9, i0, k3, k4, i7, g6, g7, d7⟩
 rw [T1] at d0
 refine Z3 (Z1 ?_)
 refine U5 (k := .i64) (a := a3) (b := 8) (by exact d7) rfl rfl (Z0 (Z3 ?_))
 by_cases l3 : a3 < 8
 rw [if_pos l3] at d0
 refine Y0 (bT l3 rfl) (Y6 (Z3 (Y7 (Z3 (Z1 (Z4 (vI a3) (by exact d7) rfl ?_))))))
 refine Ye6 (vI (Y5 a5.1 a3)) Zg4 (by exact g7) (by exact d7) (by omega) (by omega) (Yc7 (by omega) (by omega)) rfl (Z6 (vI a3) rfl rfl (Z6 (vI (Y5 a5.1 a3)) rfl rfl (Z0 (Z3 (Z3 (Z1 (Z4 (vI (Y5 a5.1 a3)) rfl rfl ?_)))))))
 refine Zc5 (k := .i64) (a := (Y5 a5.1 a3)) (b := 0) rfl rfl rfl (Z0 ?_)
 refine E9 (fun f w => ∃ (b0 : MpT) (H1 : FH) (c2 : OL), N3 K (T1 K a0 r6 a5 k) a0 a9 a3 a4 a5 b0 = some m7 ∧ Sub H H1 ∧ St H1 w ([(f5, cA (Z7 .i64 a4) 188)] ++ ([(f4, cA (Z7 .i64 a5.1) 188)] ++ (d8 ++ ([(b9, cA (U2 u6) 182)] ++ (c2 ++ L))))) ∧ R1 .i64 m1 b0 c2 ∧ RdV .i64 H1 u6 r6 ∧ Y3 (X3 .i64) H1 c3 a0.1 ∧ Y3 (X6 yT) H1 e3 a0.2 ∧ Zc7 .i64 H1 c8 f6 (some a5) d8 ∧ H1 c4 = some (.cells h6 k0) ∧ ev f (.tmp 0) = Value.pointer (some ⟨c4, d1, none⟩) ∧ ev f (.tmp 5) = m1 ∧ ev f (.tmp 6) = vP b9 ∧ ev f (.tmp 7) = vP f4 ∧ ev f (.tmp 8) = vI a5.2 ∧ ev f (.tmp 9) = vP f5 ∧ ev f (.tmp 10) = vI a9 ∧ ev f (.tmp 11) = vI a3 ∧ ev f (.tmp 12) = vI (Y5 a5.1 a3) ∧ ev f (.tmp 21) = c8 ∧ ev f (.tmp 28) = vA (Z7 .i64 a5.1) ∧ ev f (.tmp 29) = vI a3) ?_ ?_
 rintro a50 a03 ⟨b0, h4, c2, c6, Z2, hS, c7, b8, a6, a7, b6, a8, d5, f8, f9, g0, g1, e4, e9, g8, i8, f0, f1, f2⟩
 unfold N3 at c6
 refine Z3 (Z1 (Z4 (vI a3) (by exact g8) rfl (Z4 (vI (Y5 a5.1 a3)) (by exact i8) rfl ?_)))
 refine W8 Zg4 (by exact e4) rfl (by omega) (by omega) rfl ?_
 refine D0 (v := vI (Y5 a5.1 a3)) (cs := (Z7 .i64 a4).toArray) (cs' := (Z7 .i64 (T8 a4 a3 (Y5 a5.1 a3))).toArray) ty3 rfl rfl hS rfl (Zu7 rfl) (by simp [Z7, U2]; omega) (Ze5 (by omega) (by omega)) ?_
 intro w34 hS
 refine Z0 (Z3 (Z1 (Z4 (vI a3) (by exact g8) rfl (Z4 (Value.pointer (some ⟨c4, d1, none⟩)) (by exact d5) rfl (K3 rfl rfl (Y2 R4 rfl rfl ?_))))))
 refine Y4 (c3) J3 rfl (hS.froz _ _ a8) (i6 0 (show 0 < 2 by decide)) rfl ?_
 have a51 := a6.bound
 refine W6 Q9 rfl a6 rfl ?_
 refine U5 (k := .i64) (a := a3) (b := (a0.1.length : Int)) rfl rfl rfl (Z4 (Value.bool (decide (a3 < (a0.1.length : Int)))) rfl rfl ?_)
 by_cases c0 : a3 < (a0.1.length : Int)
 rw [if_pos c0] at c6
 refine Y1 rfl rfl (bT c0 rfl) (Z4 (Value.pointer (some ⟨c4, d1, none⟩)) (by exact d5) rfl ?_)
 refine Y1 rfl rfl (bT c0 rfl) (K3 rfl rfl ?_)
 refine Y1 rfl rfl (bT c0 rfl) (Y2 R4 rfl rfl ?_)
 refine Y1 rfl rfl (bT c0 rfl) ?_
 refine Y4 (c3) J3 rfl (hS.froz _ _ a8) (i6 0 (show 0 < 2 by decide)) rfl ?_
 refine Y1 rfl rfl (bT c0 rfl) (Z4 (vI a3) (by exact g8) rfl ?_)
 obtain ⟨b37, o37, a52, E37, _, w6, w8, rfl, w9⟩ := a6.elem (i := a3) (by omega) (by omega)
 refine Y1 rfl rfl (bT c0 rfl) ?_
 refine W3 Q9 rfl rfl w6 rfl (by omega) (by omega) rfl ?_
 refine Y1 rfl rfl (bT c0 rfl) ?_
 refine Y4 (vI (rd a0.1 a3)) ty2 rfl (hS.froz _ _ w8) (w9 0 (show 0 < 1 by decide)) rfl ?_
 refine Y1 rfl rfl (bT c0 rfl) ?_
 refine Zo0 (((rd a0.1 a3)).tmod 2) rfl rfl (by decide) rfl rfl ?_
 refine Y1 rfl rfl (bT c0 rfl) ?_
 refine Zf2 (k := .i64) (a := (((rd a0.1 a3)).tmod 2)) (b := 1) rfl rfl rfl ?_
 refine V1 (t := true) (Value.bool (decide ((((rd a0.1 a3)).tmod 2) = 1))) (bT c0 rfl) ((if_pos rfl).trans rfl) rfl (Z4 (Value.bool (decide ((((rd a0.1 a3)).tmod 2) = 1))) rfl rfl ?_)
 by_cases e0 : (((rd a0.1 a3)).tmod 2) = 1
 rw [if_pos e0] at c6
 refine Y1 rfl rfl (bT e0 rfl) (Z4 (vI (Y5 a5.1 a3)) (by exact i8) rfl ?_)
 refine Y1 rfl rfl (bT e0 rfl) ?_
 refine Zo0 (((Y5 a5.1 a3)).tmod 2) rfl rfl (by decide) rfl rfl ?_
 refine Y1 rfl rfl (bT e0 rfl) ?_
 refine Zf2 (k := .i64) (a := (((Y5 a5.1 a3)).tmod 2)) (b := 1) rfl rfl rfl ?_
 refine V1 (t := true) (Value.bool (decide ((((Y5 a5.1 a3)).tmod 2) = 1))) (bT e0 rfl) ((if_pos rfl).trans rfl) rfl (Z0 ?_)
 by_cases l4 : (((Y5 a5.1 a3)).tmod 2) = 1
 rw [if_pos l4] at c6
 refine Y0 (bT l4 rfl) (Z1 (Z4 (vI a9) (by exact e9) rfl ?_))
 refine Xq0 (IntKind.i64.wrap (0 - a9)) rfl rfl rfl (Z6 (vI (IntKind.i64.wrap (0 - a9))) rfl rfl (Z0 (X2 (Z1 ?_))))
 refine V0 (a3 + 1) (by exact f2) rfl (IntWalk.i64_in _ (by omega)) rfl (Z4 (vI (a3 + 1)) rfl rfl (Z0 ?_))
 exact n5 _ _ ⟨(IntKind.i64.wrap (0 - a9)), (a3 + 1), (T8 a4 a3 (Y5 a5.1 a3)), b0, h4, c2, c6, Z2, hS, (by omega), c7, b8, a6, a7, b6, a8, d5, f8, f9, g0, g1, e4, rfl, f0, f1, rfl⟩
 rw [if_neg l4] at c6
 refine Z9 (bF l4 rfl) (Y6 (X2 (Z1 ?_)))
 refine V0 (a3 + 1) (by exact f2) rfl (IntWalk.i64_in _ (by omega)) rfl (Z4 (vI (a3 + 1)) rfl rfl (Z0 ?_))
 exact n5 _ _ ⟨a9, (a3 + 1), (T8 a4 a3 (Y5 a5.1 a3)), b0, h4, c2, c6, Z2, hS, (by omega), c7, b8, a6, a7, b6, a8, d5, f8, f9, g0, g1, e4, e9, f0, f1, rfl⟩
 rw [if_neg e0] at c6
 refine Z8 rfl rfl (bF e0 rfl) rfl rfl rfl (Z8 rfl rfl (bF e0 rfl) rfl rfl rfl (Z8 rfl rfl (bF e0 rfl) rfl rfl rfl ?_))
 refine V1 (t := false) (Value.bool false) (bF e0 rfl) ((if_neg Bool.false_ne_true).trans rfl) rfl (Z0 (Z9 rfl (Y6 (X2 (Z1 ?_)))))
 refine V0 (a3 + 1) (by exact f2) rfl (IntWalk.i64_in _ (by omega)) rfl (Z4 (vI (a3 + 1)) rfl rfl (Z0 ?_))
 exact n5 _ _ ⟨a9, (a3 + 1), (T8 a4 a3 (Y5 a5.1 a3)), b0, h4, c2, c6, Z2, hS, (by omega), c7, b8, a6, a7, b6, a8, d5, f8, f9, g0, g1, e4, e9, f0, f1, rfl⟩
 rw [if_neg c0] at c6
 refine Z8 rfl rfl (bF c0 rfl) rfl rfl rfl (Z8 rfl rfl (bF c0 rfl) rfl rfl rfl (Z8 rfl rfl (bF c0 rfl) rfl rfl rfl (Z8 rfl rfl (bF c0 rfl) rfl rfl rfl (Z8 rfl rfl (bF c0 rfl) rfl rfl rfl (Z8 rfl rfl (bF c0 rfl) rfl rfl rfl (Z8 rfl rfl (bF c0 rfl) rfl rfl rfl (Z8 rfl rfl (bF c0 rfl) rfl rfl rfl (Z8 rfl rfl (bF c0 rfl) rfl rfl rfl ?_))))))))
 refine V1 (t := false) (Value.bool false) (bF c0 rfl) ((if_neg Bool.false_ne_true).trans rfl) rfl (Z4 (Value.bool false) rfl rfl (Z8 rfl rfl rfl rfl rfl rfl (Z8 rfl rfl rfl rfl rfl rfl (Z8 rfl rfl rfl rfl rfl rfl ?_))))
 refine V1 (t := false) (Value.bool false) rfl ((if_neg Bool.false_ne_true).trans rfl) rfl (Z0 (Z9 rfl (Y6 (X2 (Z1 ?_)))))
 refine V0 (a3 + 1) (by exact f2) rfl (IntWalk.i64_in _ (by omega)) rfl (Z4 (vI (a3 + 1)) rfl rfl (Z0 ?_))
 exact n5 _ _ ⟨a9, (a3 + 1), (T8 a4 a3 (Y5 a5.1 a3)), b0, h4, c2, c6, Z2, hS, (by omega), c7, b8, a6, a7, b6, a8, d5, f8, f9, g0, g1, e4, e9, f0, f1, rfl⟩
 intro p4
 by_cases l5 : 0 < (Y5 a5.1 a3)
 rw [if_pos l5] at d0
 refine Y0 (bT l5 rfl) (Z3 (Z1 ?_))
 refine X8 N2 (by exact i0) (hS.get (mR mL)) rfl rfl ?_
 refine W9 (z := vA (Z7 .i64 (fun _ => 0))) (Z7 .i64 (fun _ => 0)).toArray Zl0.zero rfl hS rfl ?_
 intro i9 w42 hS
 refine W1 (v := vA (Z7 .i64 a5.1)) (vs := (Z7 .i64 a5.1).toArray) (cs := (Z7 .i64 (fun _ => 0)).toArray) N2 rfl rfl rfl hS rfl (S8 .i64 a5.1) rfl ?_
 intro w44 hS
 refine Z0 (Z3 (Z3 (Z1 (Z4 (vI a3) rfl rfl ?_))))
 refine V0 (a3 + 1) rfl rfl (IntWalk.i64_in _ (by omega)) rfl (Z4 (vI 0) rfl rfl (Z0 (Y7 ?_)))
 obtain ⟨p5, d3, e1⟩ := bind_some d0
 refine W7 (id := 4) (fun k f w => ∃ (b4 : Int) (b7 : A8) (H1 : FH), R5 K a3 k b4 b7 = some p5 ∧ Sub H H1 ∧ St H1 w ([(i9, cA (Z7 .i64 b7) 188)] ++ ([(f5, cA (Z7 .i64 a4) 188)] ++ ([(f4, cA (Z7 .i64 a5.1) 188)] ++ (d8 ++ ([(b9, cA (U2 u6) 182)] ++ (b3 ++ L)))))) ∧ 0 ≤ b4 ∧ RdV .i64 H1 u6 r6 ∧ Y3 (X3 .i64) H1 c3 a0.1 ∧ Y3 (X6 yT) H1 e3 a0.2 ∧ R1 .i64 m1 c1 b3 ∧ Zc7 .i64 H1 c8 f6 (some a5) d8 ∧ H1 c4 = some (.cells h6 k0) ∧ ev f (.tmp 0) = Value.pointer (some ⟨c4, d1, none⟩) ∧ ev f (.tmp 5) = m1 ∧ ev f (.tmp 6) = vP b9 ∧ ev f (.tmp 7) = vP f4 ∧ ev f (.tmp 8) = vI a5.2 ∧ ev f (.tmp 9) = vP f5 ∧ ev f (.tmp 10) = vI a9 ∧ ev f (.tmp 11) = vI a3 ∧ ev f (.tmp 12) = vI (Y5 a5.1 a3) ∧ ev f (.tmp 13) = vP i9 ∧ ev f (.tmp 21) = c8 ∧ ev f (.tmp 28) = vA (Z7 .i64 a5.1) ∧ ev f (.tmp 29) = vI a3 ∧ ev f (.tmp 37) = vI (a3 + 1) ∧ ev f (.tmp 38) = vI b4) (fun f w => ∃ (b2 : A8) (H1 : FH), p5 = .go b2 ∧ Sub H H1 ∧ St H1 w ([(i9, cA (Z7 .i64 b2) 188)] ++ ([(f5, cA (Z7 .i64 a4) 188)] ++ ([(f4, cA (Z7 .i64 a5.1) 188)] ++ (d8 ++ ([(b9, cA (U2 u6) 182)] ++ (b3 ++ L)))))) ∧ RdV .i64 H1 u6 r6 ∧ Y3 (X3 .i64) H1 c3 a0.1 ∧ Y3 (X6 yT) H1 e3 a0.2 ∧ R1 .i64 m1 c1 b3 ∧ Zc7 .i64 H1 c8 f6 (some a5) d8 ∧ H1 c4 = some (.cells h6 k0) ∧ ev f (.tmp 0) = Value.pointer (some ⟨c4, d1, none⟩) ∧ ev f (.tmp 5) = m1 ∧ ev f (.tmp 6) = vP b9 ∧ ev f (.tmp 7) = vP f4 ∧ ev f (.tmp 8) = vI a5.2 ∧ ev f (.tmp 9) = vP f5 ∧ ev f (.tmp 10) = vI a9 ∧ ev f (.tmp 11) = vI a3 ∧ ev f (.tmp 12) = vI (Y5 a5.1 a3) ∧ ev f (.tmp 13) = vP i9 ∧ ev f (.tmp 21) = c8 ∧ ev f (.tmp 28) = vA (Z7 .i64 a5.1) ∧ ev f (.tmp 29) = vI a3) rfl ?_ ?_ K ?_ ?_
 rintro f w ⟨b4, b7, H1, d3, _⟩
 rw [R5] at d3; cases d3
 rintro k a53 a54 ih2 hx2 ⟨b4, b7, p6, d3, Z2, hS, z6, b8, a6, a7, b1, b6, a8, k5, k6, k7, k8, k9, l0, j0, j1, j2, g9, j3, j4, j5, j6, h0⟩
 rw [R5] at d3
 refine Z3 (Z1 ?_)
 refine U5 (k := .i64) (a := b4) (b := (a3 + 1)) (by exact h0) (by exact j6) rfl (Z0 (Z3 ?_))
 by_cases l6 : b4 < (a3 + 1)
 rw [if_pos l6] at d3
 refine Y0 (bT l6 rfl) (Y6 (Z3 (Y7 (Z3 (Z1 (Z4 (vI b4) (by exact h0) rfl (Z6 (vI b4) rfl rfl (Z0 (Z1 (Z4 (vI b4) rfl rfl ?_))))))))))
 obtain ⟨a55, d3⟩ := gd d3
 refine W8 Zg4 (by exact g9) rfl (by omega) (by omega) rfl ?_
 refine D0 (v := vI 0) (cs := (Z7 .i64 b7).toArray) (cs' := (Z7 .i64 (T8 b7 b4 0)).toArray) ty3 rfl rfl hS rfl (Zu7 rfl) (by simp [Z7, U2]; omega) (Ze5 (by omega) (by omega)) ?_
 intro w47 hS
 refine Z0 (X2 (Z1 ?_))
 refine V0 (b4 + 1) (by exact h0) rfl (IntWalk.i64_in _ (by omega)) rfl (Z4 (vI (b4 + 1)) rfl rfl (Z0 ?_))
 exact ih2 _ _ ⟨(b4 + 1), (T8 b7 b4 0), p6, d3, Z2, hS, (by omega), b8, a6, a7, b1, b6, a8, k5, k6, k7, k8, k9, l0, j0, j1, j2, g9, j3, j4, j5, j6, rfl⟩
 rw [if_neg l6] at d3
 refine Z9 (bF l6 rfl) ?_
 refine W4 rfl ?_
 have hz := Option.some.inj d3
 subst hz
 exact hx2 _ _ ⟨b7, p6, rfl, Z2, hS, b8, a6, a7, b1, b6, a8, k5, k6, k7, k8, k9, l0, j0, j1, j2, g9, j3, j4, j5⟩
 exact ⟨0, a5.1, m8, d3, Z2, hS, (by omega), b8, a6, a7, b1, b6, a8, h7, h8, h9, i0, k3, k4, i7, rfl, rfl, rfl, g6, g7, d7, rfl, rfl⟩
 rintro a56 a57 ⟨b2, a58, rfl, Z2, hS, b8, a6, a7, b1, b6, a8, i1, o1, l1, o2, o3, l2, m9, h1, j7, n0, n1, n2, n3⟩
 dsimp only [Ex.elim] at e1
 refine Z3 (Z1 ?_)
 refine X8 N2 (by exact l2) (hS.get (mR mL)) rfl rfl ?_
 refine W9 (z := vA (Z7 .i64 (fun _ => 0))) (Z7 .i64 (fun _ => 0)).toArray Zl0.zero rfl hS rfl ?_
 intro n6 w49 hS
 refine W1 (v := vA (Z7 .i64 a4)) (vs := (Z7 .i64 a4).toArray) (cs := (Z7 .i64 (fun _ => 0)).toArray) N2 rfl rfl rfl hS rfl (S8 .i64 a4) rfl ?_
 intro w51 hS
 refine Z0 (Z3 (Z1 (Z4 (vI a3) (by exact h1) rfl (Z4 (vI (Y5 a5.1 a3)) (by exact j7) rfl ?_))))
 refine Zu4 (IntKind.i64.wrap ((Y5 a5.1 a3) - 1)) rfl rfl rfl rfl ?_
 refine W8 Zg4 rfl rfl (by omega) (by omega) rfl ?_
 refine D0 (v := vI (IntKind.i64.wrap ((Y5 a5.1 a3) - 1))) (cs := (Z7 .i64 a4).toArray) (cs' := (Z7 .i64 (T8 a4 a3 (IntKind.i64.wrap ((Y5 a5.1 a3) - 1)))).toArray) ty3 rfl rfl hS rfl (Zu7 rfl) (by simp [Z7, U2]; omega) (Ze5 (by omega) (by omega)) ?_
 intro w52 hS
 refine Z0 (Z3 ?_)
 obtain ⟨h5, q8, e1⟩ := bind_some e1
 obtain ⟨g3, q9, e1⟩ := bind_some e1
 refine V4 22 (R9 [(49, MP.mk0), (50, MP.eq (vA (Z7 .i64 (T8 a4 a3 (IntKind.i64.wrap ((Y5 a5.1 a3) - 1)))))), (51, MP.mp .i64 ((A9 ([] : MpT) (T8 a4 a3 (IntKind.i64.wrap ((Y5 a5.1 a3) - 1))) 1))), (52, MP.eq (Value.pointer (some ⟨c4, d1, none⟩))), (53, MP.eq (Value.pointer (some ⟨c4, d1, none⟩))), (54, MP.eq (Value.pointer (some ⟨c4, d1 + 0, none⟩))), (55, MP.eq (c3)), (56, MP.eq (vI a3)), (57, MP.eq (Value.pointer (some ⟨b9, 0 + (a3).toNat * 1, none⟩))), (58, MP.mp .i64 ((Zk6 r6 a3))), (59, MP.mp .i64 (h5)), (60, MP.eq (Value.pointer (some ⟨c4, d1, none⟩))), (61, MP.eq (Value.pointer (some ⟨c4, d1, none⟩))), (62, MP.eq (Value.pointer (some ⟨c4, d1 + 0, none⟩))), (63, MP.eq (c3)), (64, MP.mk0), (65, MP.eq (vA (Z7 .i64 b2))), (66, MP.mp .i64 ((A9 ([] : MpT) b2 1))), (67, MP.mp .i64 (g3)), (16, MP.mp .i64 (g3))]) [Co.fz 0 49 2 (MP.mp .i64 ((A9 ([] : MpT) (T8 a4 a3 (IntKind.i64.wrap ((Y5 a5.1 a3) - 1))) 1))), Co.fz 16 64 18 (MP.mp .i64 ((A9 ([] : MpT) b2 1)))] mixed rfl (Zp5 (ns := [(0, 49, 2, 0, 49), (16, 64, 18, 16, 64)]) rfl rfl) rfl hS (Z5 rfl ?_ (Z5 rfl ?_ (Yb1 rfl ?_ (Z5 rfl ?_ (Z5 rfl ?_ (Z5 rfl ?_ (Z5 rfl ?_ (Z5 rfl ?_ (Z5 rfl ?_ (Z5 rfl ?_ (Z5 rfl ?_ (Z5 rfl ?_ (Z5 rfl ?_ (Z5 rfl ?_ (Z5 rfl ?_ (Z5 rfl ?_ (Z5 rfl ?_ (Z5 rfl ?_ (Yb1 rfl ?_ (Z5 rfl ?_ (Z5 rfl ?_ (Z5 rfl ?_ V9)))))))))))))))))))))) ?_
 intro f53 w54 H55 X56 a59 hS a60 a61 hcq
 refine Yi2 hS rfl ?_
 intro b64 w61 hS
 exact qn (.refl _) rfl hS ⟨_, rfl⟩
 intro f65 w66 H67 X68 a62 hS x0 a63 hcq
 have q73 : ev f65 (.tmp 15) = vP n6 := Eq.trans (x0 15 rfl) rfl
 refine X8 N2 q73 (hS.get (mR mL)) rfl rfl ?_
 exact qn (.refl _) rfl hS rfl
 intro n7 w75 w1 X77 a64 hS a65 p7 hcq
 have Z2 := Sub.refl w1
 obtain ⟨m3, m4⟩ := p7 0 49 rfl rfl
 have m4 : n7 49 = Value.map (some m3) := m4
 have hS : St w1 w75 (Xj0 (n7 49) ++ (X77 ++ ([(n6, cA (Z7 .i64 (T8 a4 a3 (IntKind.i64.wrap ((Y5 a5.1 a3) - 1)))) 188)] ++ ([(i9, cA (Z7 .i64 b2) 188)] ++ ([(f5, cA (Z7 .i64 a4) 188)] ++ ([(f4, cA (Z7 .i64 a5.1) 188)] ++ (d8 ++ ([(b9, cA (U2 u6) 182)] ++ (b3 ++ L))))))))) := hS
 rw [m4] at hS
 have x1 : R1 .i64 (Value.map (some m3)) [] [(m3, .map #[] 0)] := R1.new m3
 have q86 : ev n7 (.tmp 49) = Value.map (some m3) := m4
 refine Yi1 (a := (T8 a4 a3 (IntKind.i64.wrap ((Y5 a5.1 a3) - 1)))) (m := 1) Zm8 q86 (eM (p7 1 50 rfl rfl)) rfl x1 hS ?_
 intro w88 C89 x2 hS
 obtain ⟨H91, x3, hS, x4⟩ := x2.freeze hS
 have Z2 := Z2.trans x3
 exact Z0 ⟨_, rfl, rfl, Z2, hS, by show Q1 _ _ (n7 49) _; rw [m4]; exact x4⟩
 intro f94 w95 H96 X97 a66 hS a67 a13 hcq
 obtain ⟨p8, p9⟩ : ∃ v, ev f94 (.tmp 49) = v := ⟨_, rfl⟩
 have r0 : Q1 .i64 H96 p8 ((A9 ([] : MpT) (T8 a4 a3 (IntKind.i64.wrap ((Y5 a5.1 a3) - 1))) 1)) := p9 ▸ (hcq 2 _ rfl rfl)
 refine Z4 (p8) p9 rfl ?_
 exact qn (.refl _) rfl hS r0
 intro a68 a69 a70 a71 a14 hS r1 a15 hcq
 refine Z4 (Value.pointer (some ⟨c4, d1, none⟩)) (evT (r1 0 rfl) i1) rfl ?_
 exact qn (.refl _) rfl hS rfl
 intro a72 a73 a74 a75 a16 hS a17 r2 hcq
 refine K3 (eM (r2 4 52 rfl rfl)) rfl ?_
 exact qn (.refl _) rfl hS rfl
 intro a76 a77 a78 a79 a18 hS a19 r3 hcq
 refine Y2 R4 (eM (r3 5 53 rfl rfl)) rfl ?_
 exact qn (.refl _) rfl hS rfl
 intro a80 a81 a82 a83 r4 hS a20 r5 hcq
 have a8 := r4.1 _ _ a8
 refine Y4 (c3) J3 (eM (r5 6 54 rfl rfl)) (hS.froz _ _ a8) (i6 0 (show 0 < 2 by decide)) rfl ?_
 exact qn (.refl _) rfl hS rfl
 intro a84 a85 a86 a87 a21 hS r7 a22 hcq
 refine Z4 (vI a3) (evT (r7 11 rfl) h1) rfl ?_
 exact qn (.refl _) rfl hS rfl
 intro a88 a89 a90 a91 a23 hS r8 r9 hcq
 refine W8 Yy0 (evT (r8 6 rfl) l1) (eM (r9 8 56 rfl rfl)) (by omega) (by omega) rfl ?_
 exact qn (.refl _) rfl hS rfl
 intro a92 a93 a94 a95 s2 hS a24 s3 hcq
 have b8 := b8.mono s2
 have s4 := RdV.at b8 (a3)
 refine Y4 (Ya5 u6 a3) Yk4 (eM (s3 9 57 rfl rfl)) (hS.get (o := cA (U2 u6) 182) (mR (mR (mR (mR (mR (mR mL))))))) (Yt7 (by omega) (by omega)) rfl ?_
 exact qn (.refl _) rfl hS s4
 intro a96 a97 x5 a98 s5 hS a25 l7 hcq
 have Z2 := Sub.refl x5
 have a6 := a6.mono s5
 obtain ⟨a99, x6, s6⟩ := gvM (l7 3 51 rfl rfl)
 obtain ⟨aa0, x7, s7⟩ := gvM (l7 10 58 rfl rfl)
 refine Y8 Tryz.call131 (N8 x6 (eM (l7 7 55 rfl rfl)) x7) rfl (Zl1 q8 s6 a6 s7 hS) ?_
 rintro aa1 aa2 ⟨aa3, aa4, aa5, rfl, s8, hS, s9⟩
 refine ⟨_, rfl, ?_⟩
 have Z2 := Z2.trans s8
 obtain ⟨aa6, t0, hS, t1⟩ := s9.freeze hS
 have Z2 := Z2.trans t0
 exact Z0 ⟨59, _, _, rfl, rfl, Z2, hS, t1⟩
 intro aa7 aa8 aa9 ab0 a26 hS t4 a27 hcq
 refine Z4 (Value.pointer (some ⟨c4, d1, none⟩)) (evT (t4 0 rfl) i1) rfl ?_
 exact qn (.refl _) rfl hS rfl
 intro ab1 ab2 ab3 ab4 a28 hS a29 t5 hcq
 refine K3 (eM (t5 12 60 rfl rfl)) rfl ?_
 exact qn (.refl _) rfl hS rfl
 intro ab5 ab6 ab7 ab8 a30 hS a31 t6 hcq
 refine Y2 R4 (eM (t6 13 61 rfl rfl)) rfl ?_
 exact qn (.refl _) rfl hS rfl
 intro ab9 ac0 ac1 ac2 t7 hS a32 t8 hcq
 have a8 := t7.1 _ _ a8
 refine Y4 (c3) J3 (eM (t8 14 62 rfl rfl)) (hS.froz _ _ a8) (i6 0 (show 0 < 2 by decide)) rfl ?_
 exact qn (.refl _) rfl hS rfl
 intro ac3 ac4 ac5 ac6 a33 hS a34 a35 hcq
 refine Yi2 hS rfl ?_
 intro ac7 ac8 hS
 exact qn (.refl _) rfl hS ⟨_, rfl⟩
 intro ac9 ad0 ad1 ad2 a36 hS t9 a37 hcq
 refine X8 N2 (evT (t9 13 rfl) n0) (hS.get (mR (mR mL))) rfl rfl ?_
 exact qn (.refl _) rfl hS rfl
 intro l9 x8 q1 x9 a38 hS a39 n8 hcq
 have Z2 := Sub.refl q1
 obtain ⟨j8, j9⟩ := n8 16 64 rfl rfl
 have j9 : l9 64 = Value.map (some j8) := j9
 have hS : St q1 x8 (Xj0 (l9 64) ++ (x9 ++ ([(n6, cA (Z7 .i64 (T8 a4 a3 (IntKind.i64.wrap ((Y5 a5.1 a3) - 1)))) 188)] ++ ([(i9, cA (Z7 .i64 b2) 188)] ++ ([(f5, cA (Z7 .i64 a4) 188)] ++ ([(f4, cA (Z7 .i64 a5.1) 188)] ++ (d8 ++ ([(b9, cA (U2 u6) 182)] ++ (b3 ++ L))))))))) := hS
 rw [j9] at hS
 have u0 : R1 .i64 (Value.map (some j8)) [] [(j8, .map #[] 0)] := R1.new j8
 have y0 : ev l9 (.tmp 64) = Value.map (some j8) := j9
 refine Yi1 (a := b2) (m := 1) Zm8 y0 (eM (n8 17 65 rfl rfl)) rfl u0 hS ?_
 intro ad3 ad4 u1 hS
 obtain ⟨ad5, u2, hS, u3⟩ := u1.freeze hS
 have Z2 := Z2.trans u2
 exact Z0 ⟨_, rfl, rfl, Z2, hS, by show Q1 _ _ (l9 64) _; rw [j9]; exact u3⟩
 intro y1 ad6 y2 ad7 a40 hS a41 a42 hcq
 obtain ⟨q2, q3⟩ : ∃ v, ev y1 (.tmp 64) = v := ⟨_, rfl⟩
 have u4 : Q1 .i64 y2 q2 ((A9 ([] : MpT) b2 1)) := q3 ▸ (hcq 18 _ rfl rfl)
 refine Z4 (q2) q3 rfl ?_
 exact qn (.refl _) rfl hS u4
 intro ad8 ad9 y3 ae0 u5 hS a43 m0 hcq
 have Z2 := Sub.refl y3
 have a6 := a6.mono u5
 obtain ⟨ae1, y4, u7⟩ := gvM (m0 11 59 rfl rfl)
 obtain ⟨ae2, y5, u8⟩ := gvM (m0 19 66 rfl rfl)
 refine Y8 Tryz.call131 (N8 y4 (eM (m0 15 63 rfl rfl)) y5) rfl (Zl1 q9 u7 a6 u8 hS) ?_
 rintro ae3 ae4 ⟨ae5, ae6, ae7, rfl, u9, hS, v0⟩
 refine ⟨_, rfl, ?_⟩
 have Z2 := Z2.trans u9
 obtain ⟨ae8, v1, hS, v2⟩ := v0.freeze hS
 have Z2 := Z2.trans v1
 exact Z0 ⟨67, _, _, rfl, rfl, Z2, hS, v2⟩
 intro ae9 af0 af1 af2 a44 hS a45 v3 hcq
 obtain ⟨y6, y7, v4⟩ := gvM (v3 20 67 rfl rfl)
 refine Z6 (y6) y7 rfl ?_
 exact qn (.refl _) rfl hS v4
 intro af3 y8 y9 f3 hS c5 v5 hcq
 have hS : St y9 y8 ([(n6, cA (Z7 .i64 (T8 a4 a3 (IntKind.i64.wrap ((Y5 a5.1 a3) - 1)))) 188)] ++ ([(i9, cA (Z7 .i64 b2) 188)] ++ ([(f5, cA (Z7 .i64 a4) 188)] ++ ([(f4, cA (Z7 .i64 a5.1) 188)] ++ (d8 ++ ([(b9, cA (U2 u6) 182)] ++ (b3 ++ L))))))) := hS
 have Z2 := Z2.trans f3
 have a6 := a6.mono f3
 have a7 := a7.mono f3
 have b8 := b8.mono f3
 have b1 := b1.mono f3
 have b6 := b6.mono f3
 have a8 := f3.1 _ _ a8
 have q4 := evT (c5 5 rfl) o1
 have q5 := evT (c5 8 rfl) o3
 have q6 := evT (c5 10 rfl) m9
 have q7 := evT (c5 12 rfl) j7
 obtain ⟨z0, z1, m2⟩ := gvM (v5 21 16 (by decide) rfl)
 refine Z0 (Z1 (Z4 (m1) (by exact q4) rfl (Z4 (z0) (by exact z1) rfl (Z4 (vI a9) (by exact q6) rfl (Z4 (vI a5.2) (by exact q5) rfl ?_)))))
 refine Zt0 (IntKind.i64.wrap (a9 * a5.2)) rfl rfl rfl rfl (Z4 (vI (Y5 a5.1 a3)) (by exact q7) rfl ?_)
 refine Zt0 (IntKind.i64.wrap ((IntKind.i64.wrap (a9 * a5.2)) * (Y5 a5.1 a3))) rfl rfl rfl rfl ?_
 obtain ⟨i4, v7, e1⟩ := bind_some e1
 refine Y8 Tryz.call215 (Q8 rfl) rfl (Ye7 v7  hS) ?_
 rintro af4 af5 ⟨_, af6, rfl, d9, hS, rfl⟩
 refine ⟨_, rfl, ?_⟩
 have Z2 := Z2.trans d9
 have a6 := a6.mono d9
 have a7 := a7.mono d9
 have m2 := m2.mono d9
 have b8 := b8.mono d9
 have b1 := b1.mono d9
 have b6 := b6.mono d9
 have a8 := d9.1 _ _ a8
 obtain ⟨i5, v8, e1⟩ := bind_some e1
 have hS := hS.perm Wb7
 refine Y8 Tryz.call132 (N8 rfl rfl rfl) rfl (Zj1 v8 b1 m2 hS) ?_
 rintro af7 af8 ⟨z2, z3, rfl, g2, hS, v9⟩
 refine ⟨_, rfl, ?_⟩
 have Z2 := Z2.trans g2
 have a6 := a6.mono g2
 have a7 := a7.mono g2
 have b8 := b8.mono g2
 have b6 := b6.mono g2
 have a8 := g2.1 _ _ a8
 have hS := hS.perm Wb7.symm
 refine Z0 ?_
 have hS := St.dropA hS
 have hS := St.dropA hS
 exact p4 _ _ ⟨i5, z2, z3, e1, Z2, hS, v9, b8, a6, a7, b6, a8, (evT (c5 0 rfl) i1), q4, (evT (c5 6 rfl) l1), (evT (c5 7 rfl) o2), q5, (evT (c5 9 rfl) l2), q6, (evT (c5 11 rfl) h1), q7, (evT (c5 21 rfl) n1), (evT (c5 28 rfl) n2), (evT (c5 29 rfl) n3)⟩
 rw [if_neg l5] at d0
 refine Z9 (bF l5 rfl) (Y6 ?_)
 exact p4 _ _ ⟨c1, m8, b3, d0, Z2, hS, b1, b8, a6, a7, b6, a8, h7, h8, h9, i0, k3, k4, i7, rfl, rfl, g6, g7, d7⟩
 rw [if_neg l3] at d0
 refine Z9 (bF l3 rfl) ?_
 refine W4 rfl ?_
 have hz := Option.some.inj d0
 subst hz
 exact hx1 _ _ ⟨a4, c1, m8, b3, rfl, Z2, hS, b1, b8, a6, a7, b6, a8, h7, h8, h9, g6⟩
 exact ⟨1, 0, (fun _ => 0), b5, p2, c9, d0, Z2, hS, (by omega), i3, b8, a6, a7, b6, a8, n9, k2, o0, rfl, rfl, rfl, rfl, g5, rfl, rfl⟩
 rintro af9 ag0 ⟨e5, d4, z4, e8, rfl, Z2, hS, m5, b8, a6, a7, b6, a8, o4, o5, o6, n4⟩
 dsimp only [Ex.elim] at p3
 refine X2 ?_
 have hS := St.dropA hS
 have hS := St.dropA hS
 exact ih0 _ _ ⟨f6, d4, z4, d8, e8, p3, Z2, hS, b6.drop, m5, b8, a6, a7, a8, o4, o5, o6, n4⟩
 exact ⟨a1, ([] : MpT), H6, z9, C3, d6, Z2, hS, w3, o9, b8, a6, a7, a8, rfl, rfl, rfl, rfl⟩
 rintro ag1 ag2 ⟨e2, ag3, f7, g4, rfl, Z2, hS, w0, m6, b8, o7⟩
 dsimp only [Ex.elim] at p1
 refine Z3 (Z1 (Z4 (m1) (by exact o7) rfl (Z6 (m1) rfl rfl (Z0 ?_))))
 refine Y9 (vs := [m1]) Tryz.func120 ⟨rfl, trivial⟩ ?_
 have hS := hS.perm F3
 have hS := St.dropMid hS
 have hS := St.dropMid hS
 have hz := Option.some.inj p1
 subst hz
 exact ⟨_, _, _, rfl, Z2, hS, m6⟩
def Za1 (K : Nat) (a0 : ((List Int) × (List MpT))) (a1 : ((List Int) × (List MpT))) : Option Bool := ((Zn2 K a0.1 a1.1).bind fun r7 => (if r7 = true then ((Zo7 K a0.2 a1.2).bind fun a4 => (if a4 = true then some true else some false)) else some false))
theorem Zk9 {K : Nat} {a0 : ((List Int) × (List MpT))} {a1 : ((List Int) × (List MpT))} {r : Bool} (q0 : Za1 K a0 a1 = some r) {H : FH} {w : World} {L : OL} {s0 : Value} {s1 : Value} {s2 : Value} {s3 : Value} (b2 : Y3 (X3 .i64) H s0 a0.1) (a6 : Y3 (X6 yT) H s1 a0.2) (b3 : Y3 (X3 .i64) H s2 a1.1) (a7 : Y3 (X6 yT) H s3 a1.2) (hS : St H w L) :
 Calls Tryz.prog 19 #[vA ([s0] ++ [s1]), vA ([s2] ++ [s3])] w (T6 (fun v G => R.bool.p G v r) H L) := by
 have Z2 := Sub.refl H
 refine X0 Tryz.func19 rfl Tryz.ntmps19 rfl ?_
 unfold Za1 at q0
 refine Z3 (Z1 ?_)
 refine T7 (v := vA ([s0] ++ [s1])) ([s0] ++ [s1]).toArray rfl rfl hS rfl ?_
 intro b1 w2 hS
 refine T7 (v := vA ([s2] ++ [s3])) ([s2] ++ [s3]).toArray rfl rfl hS rfl ?_
 intro b4 w5 hS
 refine Z6 (Value.bool false) rfl rfl (Z0 (Z3 (Z3 (Z1 (Y2 R4 rfl rfl ?_)))))
 refine Y4 (s0) J3 rfl (hS.get (mR mL)) rfl rfl (Y2 R4 rfl rfl ?_)
 refine Y4 (s2) J3 rfl (hS.get mL) rfl rfl ?_
 obtain ⟨r7, b5, q0⟩ := bind_some q0
 refine Y8 Tryz.call24 (T0 rfl rfl) rfl (Ym9 b5 b2 b3 hS) ?_
 rintro e7 w8 ⟨_, H7, rfl, a8, hS, rfl⟩
 refine ⟨_, rfl, ?_⟩
 have Z2 := Z2.trans a8
 have a6 := a6.mono a8
 have a7 := a7.mono a8
 refine N7 (b := r7) rfl rfl (Z0 ?_)
 by_cases a5 : r7 = true
 rw [if_pos a5] at q0
 refine Z9 (Eq.trans rfl (congrArg (fun b => Value.bool (!b)) a5)) (Y6 (Z3 (Z3 (Z1 (Y2 N5 rfl rfl ?_)))))
 refine Y4 (s1) Zd8 rfl (hS.get (mR mL)) rfl rfl (Y2 N5 rfl rfl ?_)
 refine Y4 (s3) Zd8 rfl (hS.get mL) rfl rfl ?_
 obtain ⟨a4, a9, q0⟩ := bind_some q0
 refine Y8 Tryz.call37 (T0 rfl rfl) rfl (Yr3 a9 a6 a7 hS) ?_
 rintro b6 b7 ⟨_, b8, rfl, b0, hS, rfl⟩
 refine ⟨_, rfl, ?_⟩
 have Z2 := Z2.trans b0
 refine N7 (b := a4) rfl rfl (Z0 ?_)
 by_cases a3 : a4 = true
 rw [if_pos a3] at q0
 refine Z9 (Eq.trans rfl (congrArg (fun b => Value.bool (!b)) a3)) (Y6 (Z3 (Z1 (Z6 (Value.bool true) rfl rfl (Z0 ?_)))))
 refine Y9 (vs := [Value.bool true]) Tryz.func19 ⟨rfl, trivial⟩ ?_
 have hz := Option.some.inj q0
 subst hz
 exact ⟨_, _, rfl, Z2, (St.dropA (St.dropA hS)), rfl⟩
 rw [if_neg a3] at q0
 refine Y0 (Eq.trans rfl (congrArg (fun b => Value.bool (!b)) (W2 a3))) (Z3 (Z1 (Z6 (Value.bool false) rfl rfl (Z0 ?_))))
 refine Y9 (vs := [Value.bool false]) Tryz.func19 ⟨rfl, trivial⟩ ?_
 have hz := Option.some.inj q0
 subst hz
 exact ⟨_, _, rfl, Z2, (St.dropA (St.dropA hS)), rfl⟩
 rw [if_neg a5] at q0
 refine Y0 (Eq.trans rfl (congrArg (fun b => Value.bool (!b)) (W2 a5))) (Z3 (Z1 (Z6 (Value.bool false) rfl rfl (Z0 ?_))))
 refine Y9 (vs := [Value.bool false]) Tryz.func19 ⟨rfl, trivial⟩ ?_
 have hz := Option.some.inj q0
 subst hz
 exact ⟨_, _, rfl, Z2, (St.dropA (St.dropA hS)), rfl⟩
def Za5 (K : Nat) (a0 : ((List Int) × (List MpT))) : Option ((List Int) × (List MpT)) := ((Zm5 K a0.1).bind fun a9 => ((Zp3 K a0.2).bind fun a8 => some (a9, a8)))
theorem Zl2 {K : Nat} {a0 : ((List Int) × (List MpT))} {r : ((List Int) × (List MpT))} (q0 : Za5 K a0 = some r) {H : FH} {w : World} {L : OL} {s0 : Value} {s1 : Value} (c0 : Y3 (X3 .i64) H s0 a0.1) (b0 : Y3 (X6 yT) H s1 a0.2) (hS : St H w L) :
 Calls Tryz.prog 17 #[vA ([s0] ++ [s1])] w (T6 (fun v G => Zg5 H G v r) H L) := by
 have Z2 := Sub.refl H
 refine X0 Tryz.func17 rfl Tryz.ntmps17 rfl ?_
 unfold Za5 at q0
 refine Z3 (Z1 ?_)
 refine T7 (v := vA ([s0] ++ [s1])) ([s0] ++ [s1]).toArray rfl rfl hS rfl ?_
 intro b1 w2 hS
 refine W9 (z := vA ([vN] ++ [vN])) ([vN] ++ [vN]).toArray Zu9.zero rfl hS rfl ?_
 intro b4 w5 hS
 refine Z0 (Z3 (Z1 ?_))
 refine W9 (z := vA ([vN] ++ [vN])) ([vN] ++ [vN]).toArray Zu9.zero rfl hS rfl ?_
 intro b7 w8 hS
 refine Z0 (Z3 (Z1 (Y2 Xo5 rfl rfl ?_)))
 refine Y4 (s0) J3 rfl (hS.get (mR (mR mL))) rfl rfl ?_
 obtain ⟨a9, b6, q0⟩ := bind_some q0
 refine Y8 Tryz.call83 (Q8 rfl) rfl (Yn1 b6 c0 hS) ?_
 rintro c3 c4 ⟨a3, c1, rfl, b2, hS, a1⟩
 refine ⟨_, rfl, ?_⟩
 have c2 := a1
 have a6 : RdF (X3 .i64) H c1 a3 a9 := Y3.mono (Zg0 Z2) a1
 have a1 := Y3.old a1
 have Z2 := Z2.trans b2
 have b0 := b0.mono b2
 refine Y2 R4 rfl rfl ?_
 refine Ze1 (v := a3) (cs := ([vN] ++ [vN]).toArray) (cs' := ([a3] ++ [vN]).toArray) J3 rfl rfl hS a1.isOne rfl (Nat.le_of_ble_eq_true rfl) rfl ?_
 intro c5 hS
 refine Z0 (Z3 (Z1 (Y2 Xn2 rfl rfl ?_)))
 refine Y4 (s1) Wi5 rfl (hS.get (mR (mR mL))) rfl rfl ?_
 obtain ⟨a8, b8, q0⟩ := bind_some q0
 refine Y8 Tryz.call35 (Q8 rfl) rfl (Yr2 b8 b0 hS) ?_
 rintro c6 c7 ⟨a4, b5, rfl, a7, hS, a5⟩
 refine ⟨_, rfl, ?_⟩
 have b3 : RdN (X6 yT) H b5 a4 a8 (Ze2 [a3] ++ ([] : List Nat)) := RdN.keepX (Zs4 _) a5 Z2 (by rw [List.append_nil]; exact Zj3 _) (by rw [List.append_nil]; exact Y3.rootsIn a1)
 have b9 : RdF (X6 yT) H b5 a4 a8 := RdN.old b3
 have a5 := Y3.old b9
 have Z2 := Z2.trans a7
 have a1 := a1.mono a7
 have a6 := a6.mono a7
 refine Y2 N5 rfl rfl ?_
 refine Ze1 (v := a4) (cs := ([a3] ++ [vN]).toArray) (cs' := ([a3] ++ [a4]).toArray) Zd8 rfl rfl hS a5.isOne rfl (Nat.le_of_ble_eq_true rfl) rfl ?_
 intro c8 hS
 refine Z0 (Z3 (Z1 ?_))
 refine X8 P9 rfl (hS.get mL) rfl rfl ?_
 have hS := hS.perm U4
 refine W1 (v := vA ([a3] ++ [a4])) (vs := ([a3] ++ [a4]).toArray) (cs := ([vN] ++ [vN]).toArray) P9 rfl rfl rfl hS rfl (J6 (S2 a1.isOne) (S2 a5.isOne)) rfl ?_
 intro c9 hS
 have hS := hS.perm U4.symm
 refine Z0 ?_
 refine Y9 (vs := [vA ([a3] ++ [a4])]) Tryz.func17 ⟨⟨_, rfl, U8 P9 (hS.get (mR mL)) rfl⟩, trivial⟩ ?_
 have hz := Option.some.inj q0
 subst hz
 exact ⟨_, _, rfl, Z2, (St.dropA (St.dropA (St.dropA hS))), ⟨_, _, rfl, a6, b3⟩⟩
def Zm1 (K : Nat) (a0 : ((List Int) × (List MpT))) (a1 : Int) : Option Int := ((Zs5 K (a0.1, a0.2)).bind fun r4 => (if r4 = true then ((Zj6 K a1 0 (IntKind.i64.wrap ((a0.1.length : Int) - 1))).bind fun r8 => (if r8 = true then some 0 else some 2)) else some 1))
theorem Yo5 {K : Nat} {a0 : ((List Int) × (List MpT))} {a1 : Int} {r : Int} (q0 : Zm1 K a0 a1 = some r) {H : FH} {w : World} {L : OL} {s0 : Value} {s1 : Value} (a4 : Y3 (X3 .i64) H s0 a0.1) (a7 : Y3 (X6 yT) H s1 a0.2) (hS : St H w L) :
 Calls Tryz.prog 78 #[vA ([s0] ++ [s1]), vI a1] w (T6 (fun v G => (R.int .i64).p G v r) H L) := by
 have Z2 := Sub.refl H
 refine X0 Tryz.func78 rfl Tryz.ntmps78 rfl ?_
 unfold Zm1 at q0
 refine Z3 (Z1 ?_)
 refine T7 (v := vA ([s0] ++ [s1])) ([s0] ++ [s1]).toArray rfl rfl hS rfl ?_
 intro b1 w2 hS
 refine Z6 (vI 0) rfl rfl (Z0 (Z3 (Y7 (Z3 (Z1 ?_)))))
 refine X8 P9 rfl (hS.get mL) rfl rfl ?_
 obtain ⟨r4, a8, q0⟩ := bind_some q0
 refine Y8 Tryz.call92 (Q8 rfl) rfl (Yv7 a8 a4 a7 hS) ?_
 rintro e4 w5 ⟨_, H4, rfl, a6, hS, rfl⟩
 refine ⟨_, rfl, ?_⟩
 have Z2 := Z2.trans a6
 have a4 := a4.mono a6
 refine N7 (b := r4) rfl rfl (Z6 (Value.bool (!r4)) rfl rfl (Z0 ?_))
 by_cases a5 : r4 = true
 rw [if_pos a5] at q0
 refine Z9 (Eq.trans rfl (congrArg (fun b => Value.bool (!b)) a5)) (Z3 (Z1 (Z4 (vI a1) rfl rfl (Y2 R4 rfl rfl ?_))))
 refine Y4 (s0) J3 rfl (hS.get mL) rfl rfl ?_
 have b2 := a4.bound
 refine W6 Q9 rfl a4 rfl ?_
 refine Zu4 (IntKind.i64.wrap ((a0.1.length : Int) - 1)) rfl rfl rfl rfl ?_
 obtain ⟨r8, a9, q0⟩ := bind_some q0
 refine Y8 Tryz.call93 (N8 rfl rfl rfl) rfl (Zm7 a9  hS) ?_
 rintro e8 w9 ⟨_, H8, rfl, b0, hS, rfl⟩
 refine ⟨_, rfl, ?_⟩
 have Z2 := Z2.trans b0
 refine N7 (b := r8) rfl rfl (Z6 (Value.bool (!r8)) rfl rfl (Z0 ?_))
 by_cases a3 : r8 = true
 rw [if_pos a3] at q0
 refine Z9 (Eq.trans rfl (congrArg (fun b => Value.bool (!b)) a3)) (Y6 (X2 (Z3 (Z1 (Z6 (vI 0) rfl rfl (Z0 ?_))))))
 refine Y9 (vs := [vI 0]) Tryz.func78 ⟨rfl, trivial⟩ ?_
 have hz := Option.some.inj q0
 subst hz
 exact ⟨_, _, rfl, Z2, (St.dropA hS), rfl⟩
 rw [if_neg a3] at q0
 refine Y0 (Eq.trans rfl (congrArg (fun b => Value.bool (!b)) (W2 a3))) (Z3 (Z1 (Z6 (vI 2) rfl rfl (Z0 ?_))))
 refine Y9 (vs := [vI 2]) Tryz.func78 ⟨rfl, trivial⟩ ?_
 have hz := Option.some.inj q0
 subst hz
 exact ⟨_, _, rfl, Z2, (St.dropA hS), rfl⟩
 rw [if_neg a5] at q0
 refine Y0 (Eq.trans rfl (congrArg (fun b => Value.bool (!b)) (W2 a5))) (Z3 (Z1 (Z6 (vI 1) rfl rfl (Z0 ?_))))
 refine Y9 (vs := [vI 1]) Tryz.func78 ⟨rfl, trivial⟩ ?_
 have hz := Option.some.inj q0
 subst hz
 exact ⟨_, _, rfl, Z2, (St.dropA hS), rfl⟩
end Go.Proofs.YtfodlhkoafhplaaGreat
