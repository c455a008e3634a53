/- Walks of functions: each computes its pure function, if that gives a value. -/
import Derived.Test.YtabofnehiclkiaaGreatXTy
import Derived.Test.YtabofnehiclkiaaGreatXF2
import Derived.Test.YtabofnehiclkiaaGreatXF4
import Derived.Test.YtabofnehiclkiaaGreatXF1
import Derived.Test.YtabofnehiclkiaaGreatXF3
namespace Go.Proofs.YtabofnehiclkiaaGreat
open Go
set_option linter.unusedSimpArgs false
set_option linter.unusedVariables false
set_option maxRecDepth 100000
set_option maxHeartbeats 8000000
variable {K : Nat} {H : FH} {w : World} {L : OL} {s0 s1 s2 s3 s4 s5 s6 : Value}
def Zf9 (K : Nat) (j5 : Int → (List Int) → Option (Ex (List (List Int)) ((List Int)))) (a0 : ((List Int) × (List MpT))) (a1 : Int) (a3 : Int) (a5 : Int) (a6 : (List Int)) (c6 : Bool) : Option (Ex (List (List Int)) ((List Int))) := (if c6 = true then (if a5 < 8 then (if (Y5 ((rd (rd a0.2 a1) a3).1) a5) = 1 then (if a5 < (a6.length : Int) then j5 (a5 + 1) (a6.set (a5).toNat ((rd (rd a0.2 a1) a3).2)) else none) else j5 (a5 + 1) a6) else none) else some (.go a6))
def N3 (K : Nat) (a0 : ((List Int) × (List MpT))) (a1 : Int) (a3 : Int) : Nat → Int → (List Int) → Option (Ex (List (List Int)) ((List Int)))
 | 0, _, _ => none
 | k + 1, a5, a6 => (if a5 < (a0.1.length : Int) then ((Zu4 K ((rd (rd a0.2 a1) a3).1)).bind fun g5 => Zf9 K (N3 K a0 a1 a3 k) a0 a1 a3 a5 a6 (decide (g5 = 1))) else Zf9 K (N3 K a0 a1 a3 k) a0 a1 a3 a5 a6 false)
def B2 (K : Nat) (a0 : ((List Int) × (List MpT))) (a1 : Int) : Nat → Int → (List Int) → Option (Ex (List (List Int)) ((List Int)))
 | 0, _, _ => none
 | k + 1, a3, b6 => (if a3 < ((rd a0.2 a1).length : Int) then ((N3 K a0 a1 a3 K 0 b6).bind (Ex.elim (fun r => some (.ret r)) (fun s => (fun (c1 : (List Int)) => B2 K a0 a1 k (a3 + 1) c1) s))) else some (.go b6))
def B4 (K : Nat) (a0 : ((List Int) × (List MpT))) : Nat → Int → (List (List Int)) → Option (Ex (List (List Int)) ((List (List Int))))
 | 0, _, _ => none
 | k + 1, a1, a9 => (if a1 < (a0.2.length : Int) then (if (a0.1.length : Int) ≤ 1099511627776 then ((B2 K a0 a1 K 0 (List.replicate ((a0.1.length : Int)).toNat (0 : Int))).bind (Ex.elim (fun r => some (.ret r)) (fun s => (fun (b8 : (List Int)) => (if a9.length + ([b8]).length ≤ 1099511627776 then B4 K a0 k (a1 + 1) (a9 ++ [b8]) else none)) s))) else none) else some (.go a9))
def Zl5 (K : Nat) (a0 : ((List Int) × (List MpT))) : Option (List (List Int)) := ((B4 K a0 K 0 ([] : List (List Int))).bind (Ex.elim (fun r => some r) (fun s => (fun (d1 : (List (List Int))) => some d1) s)))
theorem Yf2 {a0 : ((List Int) × (List MpT))} {r : (List (List Int))} (q0 : Zl5 K a0 = some r) (b3 : Z9 (Y6 .i64) H s0 a0.1) (b4 : Z9 (Y9 yT) H s1 a0.2) (hS : St H w L) :
 Calls Tryz.prog 243 #[vA ([s0] ++ [s1])] w (T2 (fun v G => (R.sl (Y9 (Y6 .i64))).p G v r) H L) := by
 have Z3 := Sub.refl H
 refine X3 Tryz.func243 rfl Tryz.ntmps243 rfl ?_
 unfold Zl5 at q0
 refine Z2 (Z0 ?_)
 refine S3 (v := vA ([s0] ++ [s1])) ([s0] ++ [s1]).toArray rfl rfl hS rfl ?_
 intro b1 _ hS
 refine Z5 (vN) rfl rfl (Z1 (Z2 (Z0 ?_)))
 refine Zq2 (τ := (Y9 (Y6 .i64))) Yg7 Xv4 rfl hS rfl ?_
 intro u4 _ C6 m0 hS
 refine Z5 (u4) rfl rfl (Z1 (Z2 (Z2 (Z0 (Z5 (vI 0) rfl rfl (Z1 (Y7 ?_)))))))
 obtain ⟨i4, c2, i5⟩ := bind_some q0
 refine W1 (id := 0) (fun k f w => ∃ (a1 : Int) (a9 : (List (List Int))) (H1 : FH) (a8 : OL) (a7 : Value), B4 K a0 k a1 a9 = some i4 ∧ Sub H H1 ∧ St H1 w (a8 ++ ([(b1, cA ([s0] ++ [s1]) 31)] ++ L)) ∧ 0 ≤ a1 ∧ W3 (Y9 (Y6 .i64)) 22 H1 a7 a9 a8 ∧ Z9 (Y6 .i64) H1 s0 a0.1 ∧ Z9 (Y9 yT) H1 s1 a0.2 ∧ tv f 1 = vP b1 ∧ tv f 3 = a7 ∧ tv f 4 = vI a1) (fun f w => ∃ (d1 : (List (List Int))) (H1 : FH) (d8 : OL) (c3 : Value), i4 = .go d1 ∧ Sub H H1 ∧ St H1 w (d8 ++ ([(b1, cA ([s0] ++ [s1]) 31)] ++ L)) ∧ W3 (Y9 (Y6 .i64)) 22 H1 c3 d1 d8 ∧ Z9 (Y6 .i64) H1 s0 a0.1 ∧ Z9 (Y9 yT) H1 s1 a0.2 ∧ tv f 3 = c3) rfl ?_ ?_ K ?_ ?_
 rintro f w ⟨a1, a9, H1, a8, a7, c2, _⟩
 rw [B4] at c2; cases c2
 rintro k _ _ m1 m2 ⟨a1, a9, i6, a8, a7, c2, Z3, hS, _, a4, b3, b4, e0, f2, f3⟩
 rw [B4] at c2
 refine Z2 (Z2 (Z0 (Z4 (vI a1) (by exact f3) rfl (Y2 P2 (by exact e0) rfl ?_))))
 refine Y3 (s1) Zd6 rfl (hS.get (mR mL)) rfl rfl ?_
 have n4 := b4.bound
 refine W7 P6 rfl b4 rfl ?_
 refine V5 (k := .i64) (a := a1) (b := (a0.2.length : Int)) rfl rfl rfl (Z1 ?_)
 obtain ⟨g9, c2⟩ | ⟨g9, c2⟩ := ic c2
 refine Y0 (bT g9 rfl) (Y8 (Z2 (Y7 (Z2 (Z0 (Y2 R4 (by exact e0) rfl ?_))))))
 refine Y3 (s0) M9 rfl (hS.get (mR mL)) rfl rfl ?_
 have n1 := b3.bound
 refine W7 Q0 rfl b3 rfl ?_
 obtain ⟨_, c2⟩ := gd c2
 refine Xh8 (τ := (Y6 .i64)) (0 : Int) Xd5 rfl rfl rfl (fun _ => rfl) (by omega) (by omega) hS rfl ?_
 intro j6 _ m3 j9 hS
 refine Z5 (j6) rfl rfl (Z1 (Z2 (Z2 (Z0 (Z5 (vI 0) rfl rfl (Z1 (Y7 ?_)))))))
 obtain ⟨i7, c7, g0⟩ := bind_some c2
 refine W1 (id := 2) (fun k f w => ∃ (a3 : Int) (b6 : (List Int)) (H1 : FH) (b9 : OL) (c0 : Value), B2 K a0 a1 k a3 b6 = some i7 ∧ Sub H H1 ∧ St H1 w (b9 ++ (a8 ++ ([(b1, cA ([s0] ++ [s1]) 31)] ++ L))) ∧ 0 ≤ a3 ∧ W3 (Y6 .i64) 2 H1 c0 b6 b9 ∧ Z9 (Y6 .i64) H1 s0 a0.1 ∧ Z9 (Y9 yT) H1 s1 a0.2 ∧ W3 (Y9 (Y6 .i64)) 22 H1 a7 a9 a8 ∧ tv f 1 = vP b1 ∧ tv f 3 = a7 ∧ tv f 4 = vI a1 ∧ tv f 5 = c0 ∧ tv f 6 = vI a3) (fun f w => ∃ (b8 : (List Int)) (H1 : FH) (d2 : OL) (c5 : Value), i7 = .go b8 ∧ Sub H H1 ∧ St H1 w (d2 ++ (a8 ++ ([(b1, cA ([s0] ++ [s1]) 31)] ++ L))) ∧ W3 (Y6 .i64) 2 H1 c5 b8 d2 ∧ Z9 (Y6 .i64) H1 s0 a0.1 ∧ Z9 (Y9 yT) H1 s1 a0.2 ∧ W3 (Y9 (Y6 .i64)) 22 H1 a7 a9 a8 ∧ tv f 1 = vP b1 ∧ tv f 3 = a7 ∧ tv f 4 = vI a1 ∧ tv f 5 = c5) rfl ?_ ?_ K ?_ ?_
 rintro f w ⟨a3, b6, H1, b9, c0, c7, _⟩
 rw [B2] at c7; cases c7
 rintro k _ _ m4 m5 ⟨a3, b6, i8, b9, c0, c7, Z3, hS, _, d9, b3, b4, a4, d3, f4, d4, f5, e1⟩
 rw [B2] at c7
 refine Z2 (Z2 (Z0 (Z4 (vI a3) (by exact e1) rfl (Y2 P2 (by exact d3) rfl ?_))))
 refine Y3 (s1) Zd6 rfl (hS.get (mR (mR mL))) rfl rfl (Z4 (vI a1) (by exact d4) rfl ?_)
 obtain ⟨_, _, _, _, _, k0, k1, ⟨j3, rfl, g6⟩, k2⟩ := b4.elem (i := a1) (by omega) (by omega)
 refine X9 P6 rfl rfl k0 rfl (by omega) (by omega) rfl (Y2 V9 rfl rfl ?_)
 refine Y3 (j3) Q4 rfl (hS.froz _ _ k1) (k2 0 (show 0 < 1 by decide)) rfl ?_
 have n2 := g6.bound
 refine W7 R7 rfl g6 rfl ?_
 refine V5 (k := .i64) (a := a3) (b := ((rd a0.2 a1).length : Int)) rfl rfl rfl (Z1 ?_)
 obtain ⟨h0, c7⟩ | ⟨h0, c7⟩ := ic c7
 refine Y0 (bT h0 rfl) (Y8 (Z2 (Y7 (Z2 (Z0 (Y2 P2 (by exact d3) rfl ?_))))))
 refine Y3 (s1) Zd6 rfl (hS.get (mR (mR mL))) rfl rfl (Z4 (vI a1) (by exact d4) rfl ?_)
 obtain ⟨_, _, _, _, _, k3, k4, ⟨j4, rfl, i9⟩, k5⟩ := b4.elem (i := a1) (by omega) (by omega)
 refine X9 P6 rfl rfl k3 rfl (by omega) (by omega) rfl (Y2 V9 rfl rfl ?_)
 refine Y3 (j4) Q4 rfl (hS.froz _ _ k4) (k5 0 (show 0 < 1 by decide)) rfl (Z4 (vI a3) (by exact e1) rfl ?_)
 obtain ⟨_, _, _, _, _, k6, k7, ⟨_, _, rfl, rfl, rfl⟩, k8⟩ := i9.elem (i := a3) (by omega) (by omega)
 refine X9 R7 rfl rfl k6 rfl (by omega) (by omega) rfl ?_
 refine W9 (Z7 .u8 ((rd (rd a0.2 a1) a3).1) ++ [vI ((rd (rd a0.2 a1) a3).2)]) Zt9 rfl (hS.froz _ _ k7) rfl k8 rfl ?_
 refine W6 (z := vA (Z7 .u8 (fun _ => 0) ++ [vI 0])) (Z7 .u8 (fun _ => 0) ++ [vI 0]).toArray Ya6.zero rfl hS rfl ?_
 intro g7 _ hS
 refine X5 (v := vA (Z7 .u8 ((rd (rd a0.2 a1) a3).1) ++ [vI ((rd (rd a0.2 a1) a3).2)])) (vs := (Z7 .u8 ((rd (rd a0.2 a1) a3).1) ++ [vI ((rd (rd a0.2 a1) a3).2)]).toArray) (cs := (Z7 .u8 (fun _ => 0) ++ [vI 0]).toArray) Zt9 rfl rfl rfl hS rfl (R8 (S4 .u8 ((rd (rd a0.2 a1) a3).1)) (U0 rfl)) rfl ?_
 intro _ hS
 refine Z1 (Z2 (Z0 (Z5 (vI 0) rfl rfl (Z1 (Y7 ?_)))))
 obtain ⟨h1, c4, j0⟩ := bind_some c7
 refine W1 (id := 4) (fun k f w => ∃ (a5 : Int) (a6 : (List Int)) (H1 : FH) (b5 : OL) (b0 : Value), N3 K a0 a1 a3 k a5 a6 = some h1 ∧ Sub H H1 ∧ St H1 w ([(g7, cA (Z7 .u8 ((rd (rd a0.2 a1) a3).1) ++ [vI ((rd (rd a0.2 a1) a3).2)]) 78)] ++ (b5 ++ (a8 ++ ([(b1, cA ([s0] ++ [s1]) 31)] ++ L)))) ∧ 0 ≤ a5 ∧ W3 (Y6 .i64) 2 H1 b0 a6 b5 ∧ Z9 (Y6 .i64) H1 s0 a0.1 ∧ Z9 (Y9 yT) H1 s1 a0.2 ∧ W3 (Y9 (Y6 .i64)) 22 H1 a7 a9 a8 ∧ tv f 1 = vP b1 ∧ tv f 3 = a7 ∧ tv f 4 = vI a1 ∧ tv f 5 = b0 ∧ tv f 6 = vI a3 ∧ tv f 7 = vP g7 ∧ tv f 8 = vI a5) (fun f w => ∃ (c1 : (List Int)) (H1 : FH) (c9 : OL) (d0 : Value), h1 = .go c1 ∧ Sub H H1 ∧ St H1 w ([(g7, cA (Z7 .u8 ((rd (rd a0.2 a1) a3).1) ++ [vI ((rd (rd a0.2 a1) a3).2)]) 78)] ++ (c9 ++ (a8 ++ ([(b1, cA ([s0] ++ [s1]) 31)] ++ L)))) ∧ W3 (Y6 .i64) 2 H1 d0 c1 c9 ∧ Z9 (Y6 .i64) H1 s0 a0.1 ∧ Z9 (Y9 yT) H1 s1 a0.2 ∧ W3 (Y9 (Y6 .i64)) 22 H1 a7 a9 a8 ∧ tv f 1 = vP b1 ∧ tv f 3 = a7 ∧ tv f 4 = vI a1 ∧ tv f 5 = d0 ∧ tv f 6 = vI a3) rfl ?_ ?_ K ?_ ?_
 rintro f w ⟨a5, a6, H1, b5, b0, c4, _⟩
 rw [N3] at c4; cases c4
 rintro k _ _ j7 m6 ⟨a5, a6, k9, b5, b0, c4, Z3, hS, _, b2, b3, b4, a4, e2, f6, f7, f8, f9, e3, e4⟩
 rw [N3] at c4
 refine Z2 (Z2 ?_)
 refine Zb0 (fun f w => ∃ (c6 : Bool) (H1 : FH), Zf9 K (N3 K a0 a1 a3 k) a0 a1 a3 a5 a6 c6 = some h1 ∧ Sub H H1 ∧ St H1 w ([(g7, cA (Z7 .u8 ((rd (rd a0.2 a1) a3).1) ++ [vI ((rd (rd a0.2 a1) a3).2)]) 78)] ++ (b5 ++ (a8 ++ ([(b1, cA ([s0] ++ [s1]) 31)] ++ L)))) ∧ Z9 (Y6 .i64) H1 s0 a0.1 ∧ Z9 (Y9 yT) H1 s1 a0.2 ∧ W3 (Y6 .i64) 2 H1 b0 a6 b5 ∧ W3 (Y9 (Y6 .i64)) 22 H1 a7 a9 a8 ∧ tv f 1 = vP b1 ∧ tv f 3 = a7 ∧ tv f 4 = vI a1 ∧ tv f 5 = b0 ∧ tv f 6 = vI a3 ∧ tv f 7 = vP g7 ∧ tv f 8 = vI a5 ∧ tv f 51 = vB c6) ?_ ?_
 rintro _ _ ⟨c6, e9, b7, Z3, hS, b3, b4, b2, a4, e5, e6, e7, d5, e8, d6, d7, f0⟩
 unfold Zf9 at b7
 obtain ⟨h2, b7⟩ | ⟨h2, b7⟩ := ic b7
 refine Y0 (Eq.trans (by exact f0) (congrArg vB h2)) (Y8 (Z2 (Y7 (Z2 (Z0 (Z4 (vI a5) (by exact d7) rfl (Y2 M1 (by exact d6) rfl ?_)))))))
 obtain ⟨_, b7⟩ := gd b7
 refine V2 Zd9 rfl rfl (by omega) (by omega) rfl ?_
 refine Y3 (Value.int .u8 (Y5 ((rd (rd a0.2 a1) a3).1) a5)) ty5 rfl (hS.get (o := cA (Z7 .u8 ((rd (rd a0.2 a1) a3).1) ++ [vI ((rd (rd a0.2 a1) a3).2)]) 78) mL) (J2 ([]) (([vI ((rd (rd a0.2 a1) a3).2)])) (by omega) (by omega)) rfl ?_
 refine Zc2 (k := .u8) (a := (Y5 ((rd (rd a0.2 a1) a3).1) a5)) (b := 1) rfl rfl rfl (Z1 ?_)
 obtain ⟨h3, b7⟩ | ⟨h3, b7⟩ := ic b7
 refine Y0 (bT h3 rfl) (Z0 (Z4 (b0) (by exact d5) rfl (Z4 (vI a5) (by exact d7) rfl (Y2 Ze2 (by exact d6) rfl ?_))))
 refine Y3 (vI ((rd (rd a0.2 a1) a3).2)) ty2 rfl (hS.get mL) rfl rfl ?_
 obtain ⟨_, b7⟩ := gd b7
 obtain ⟨_, _, j1⟩ := b2.some (i := a5) (by omega) (by omega)
 refine Zw4 Q0 (Eq.trans rfl j1) rfl (by omega) (by omega) rfl ?_
 have hS := hS.perm V1
 refine Zw2 (τ := (Y6 .i64)) (v := b0) (u := vI ((rd (rd a0.2 a1) a3).2)) ((rd (rd a0.2 a1) a3).2) (i := a5) rfl ty2 j1 b2 hS rfl rfl (by omega) (by omega) rfl ?_
 intro _ m7 l0 hS
 have hS := hS.perm V1.symm
 refine Z1 (X4 (Z0 (Z4 (vI a5) (by exact d7) rfl ?_)))
 refine W8 (a5 + 1) rfl rfl (IntWalk.i64_in _ (by omega)) rfl (Z5 (vI (a5 + 1)) rfl rfl (Z1 ?_))
 exact j7 _ _ ⟨(a5 + 1), (a6.set (a5).toNat ((rd (rd a0.2 a1) a3).2)), e9, m7, b0, b7, Z3, hS, (by omega), l0, b3, b4, a4, e5, e6, e7, d5, e8, d6, rfl⟩
 refine Z8 (bF h3 rfl) (Y8 (X4 (Z0 (Z4 (vI a5) (by exact d7) rfl ?_))))
 refine W8 (a5 + 1) rfl rfl (IntWalk.i64_in _ (by omega)) rfl (Z5 (vI (a5 + 1)) rfl rfl (Z1 ?_))
 exact j7 _ _ ⟨(a5 + 1), a6, e9, b5, b0, b7, Z3, hS, (by omega), b2, b3, b4, a4, e5, e6, e7, d5, e8, d6, rfl⟩
 refine Z8 (Eq.trans (by exact f0) (congrArg vB (X8 h2))) ?_
 refine W0 rfl ?_
 obtain rfl := oi b7
 exact m6 _ _ ⟨a6, e9, b5, b0, rfl, Z3, hS, b2, b3, b4, a4, e5, e6, e7, d5, e8⟩
 intro j2
 refine Z0 (Z4 (vI a5) (by exact e4) rfl (Y2 R4 (by exact e2) rfl ?_))
 refine Y3 (s0) M9 rfl (hS.get (mR (mR (mR mL)))) rfl rfl ?_
 have n3 := b3.bound
 refine W7 Q0 rfl b3 rfl ?_
 refine V5 (k := .i64) (a := a5) (b := (a0.1.length : Int)) rfl rfl rfl (Z4 (vB (decide (a5 < (a0.1.length : Int)))) rfl rfl ?_)
 obtain ⟨c8, c4⟩ | ⟨c8, c4⟩ := ic c4
 refine Y4 rfl rfl (bT c8 rfl) (Y2 M1 (by exact e3) rfl ?_)
 refine Y4 rfl rfl (bT c8 rfl) ?_
 refine W9 (Z7 .u8 ((rd (rd a0.2 a1) a3).1)) M2 rfl (hS.get (o := cA (Z7 .u8 ((rd (rd a0.2 a1) a3).1) ++ [vI ((rd (rd a0.2 a1) a3).2)]) 78) mL) rfl (fun j hj => Zm0 ([]) (Z7 .u8 ((rd (rd a0.2 a1) a3).1)) (([vI ((rd (rd a0.2 a1) a3).2)])) j hj) rfl ?_
 obtain ⟨g5, l1, c4⟩ := bind_some c4
 refine Y4 rfl rfl (bT c8 rfl) ?_
 refine X6 Tryz.call273 (S2 rfl) rfl (Xb3 l1  hS) ?_
 rintro _ m8 _ f1 hS rfl
 have Z3 := Z3.trans f1
 have b3 := b3.mono f1
 have b4 := b4.mono f1
 have a4 := a4.mono f1
 have b2 := b2.mono f1
 refine Y4 rfl rfl (bT c8 rfl) ?_
 refine Zc2 (k := .i64) (a := g5) (b := 1) rfl rfl rfl ?_
 refine V0 (t := true) (vB (decide (g5 = 1))) (bT c8 rfl) ((if_pos rfl).trans rfl) rfl (Z1 ?_)
 exact j2 _ _ ⟨(decide (g5 = 1)), m8, c4, Z3, hS, b3, b4, b2, a4, e2, f6, f7, f8, f9, e3, e4, rfl⟩
 refine Y1 rfl rfl (bF c8 rfl) rfl rfl rfl (Y1 rfl rfl (bF c8 rfl) rfl rfl rfl (Y1 rfl rfl (bF c8 rfl) rfl rfl rfl (Y1 rfl rfl (bF c8 rfl) rfl rfl rfl ?_)))
 refine V0 (t := false) (vB false) (bF c8 rfl) ((if_neg Bool.false_ne_true).trans rfl) rfl (Z1 ?_)
 exact j2 _ _ ⟨false, k9, c4, Z3, hS, b3, b4, b2, a4, e2, f6, f7, f8, f9, e3, e4, rfl⟩
 exact ⟨0, b6, i8, b9, c0, c4, Z3, hS, (by omega), d9, b3, b4, a4, d3, f4, d4, f5, e1, rfl, rfl⟩
 rintro _ _ ⟨c1, l2, c9, d0, rfl, Z3, hS, g1, b3, b4, a4, h4, h5, h6, h7, h8⟩
 dsimp only [Ex.elim] at j0
 refine X4 (Z0 (Z4 (vI a3) (by exact h8) rfl ?_))
 refine W8 (a3 + 1) rfl rfl (IntWalk.i64_in _ (by omega)) rfl (Z5 (vI (a3 + 1)) rfl rfl (Z1 ?_))
 have hS := St.dropA hS
 exact m4 _ _ ⟨(a3 + 1), c1, l2, c9, d0, j0, Z3, hS, (by omega), g1, b3, b4, a4, h4, h5, h6, h7, rfl⟩
 refine Z8 (bF h0 rfl) ?_
 refine W0 rfl ?_
 obtain rfl := oi c7
 exact m5 _ _ ⟨b6, i8, b9, c0, rfl, Z3, hS, d9, b3, b4, a4, d3, f4, d4, f5⟩
 exact ⟨0, (List.replicate ((a0.1.length : Int)).toNat (0 : Int)), i6, m3, j6, c7, Z3, hS, (by omega), j9, b3, b4, a4, e0, f2, f3, rfl, rfl⟩
 rintro _ _ ⟨b8, _, d2, c5, rfl, Z3, hS, g2, b3, b4, a4, h9, i0, i1, i2⟩
 dsimp only [Ex.elim] at g0
 refine Z0 (Z4 (a7) (by exact i0) rfl (Z4 (c5) (by exact i2) rfl ?_))
 obtain ⟨_, g3, hS, l3⟩ := g2.freeze hS
 have Z3 := Z3.trans g3
 have b3 := b3.mono g3
 have b4 := b4.mono g3
 have a4 := a4.mono g3
 refine D9 (τ := (Y9 (Y6 .i64))) Yg7 Xv4 rfl [c5] [b8] rfl rfl (K6 rfl) (Zi6 l3.relv) (by decide) (by decide) hS rfl ?_
 intro _ m9 _ g4 hS l4
 have Z3 := Z3.trans g4
 have b3 := b3.mono g4
 have b4 := b4.mono g4
 have a4 := a4.mono g4
 obtain ⟨l5, g0⟩ := gd g0
 refine N5 (τ := (Y9 (Y6 .i64))) Wu0 rfl rfl rfl a4 hS l4 l5 rfl ?_
 intro j8 _ n0 l6 hS
 refine Z5 (j8) rfl rfl (Z1 (X4 (Z0 (Z4 (vI a1) (by exact i1) rfl ?_))))
 refine W8 (a1 + 1) rfl rfl (IntWalk.i64_in _ (by omega)) rfl (Z5 (vI (a1 + 1)) rfl rfl (Z1 ?_))
 exact m1 _ _ ⟨(a1 + 1), (a9 ++ [b8]), m9, n0, j8, g0, Z3, hS, (by omega), l6, b3, b4, h9, rfl, rfl⟩
 refine Z8 (bF g9 rfl) ?_
 refine W0 rfl ?_
 obtain rfl := oi c2
 exact m2 _ _ ⟨a9, i6, a8, a7, rfl, Z3, hS, a4, b3, b4, f2⟩
 exact ⟨0, ([] : List (List Int)), H, C6, u4, c2, Z3, hS, (by omega), m0, b3, b4, rfl, rfl, rfl⟩
 rintro _ _ ⟨d1, _, d8, c3, rfl, Z3, hS, g8, b3, b4, i3⟩
 dsimp only [Ex.elim] at i5
 refine Z2 (Z0 (Z4 (c3) (by exact i3) rfl (Z5 (c3) rfl rfl (Z1 ?_))))
 refine X0 (vs := [c3]) Tryz.func243 ⟨rfl, trivial⟩ ?_
 obtain ⟨_, l7, hS, l9⟩ := g8.freeze hS
 have Z3 := Z3.trans l7
 obtain rfl := oi i5
 exact ⟨_, _, rfl, Z3, (St.dropA hS), l9⟩
def Zf0 (K : Nat) (a0 : ((List Int) × (List MpT))) : Nat → Int → (List MpT) → Option (Ex ((List Int) × (List MpT)) ((List MpT)))
 | 0, _, _ => none
 | k + 1, a6, a1 => (if a6 < (a0.2.length : Int) then ((Zv8 K (rd a0.2 a6) 0).bind fun c3 => (if a1.length + ([c3]).length ≤ 1099511627776 then Zf0 K a0 k (a6 + 1) (a1 ++ [c3]) else none)) else some (.go a1))
def Zx2 (K : Nat) (a0 : ((List Int) × (List MpT))) : Option ((List Int) × (List MpT)) := ((Yb2 K a0.1).bind fun r7 => ((Zf0 K a0 K 0 ([] : List MpT)).bind (Ex.elim (fun r => some r) (fun s => (fun (a8 : (List MpT)) => some (r7, a8)) s))))
theorem Xe1 {a0 : ((List Int) × (List MpT))} {r : ((List Int) × (List MpT))} (q0 : Zx2 K a0 = some r) (b6 : Z9 (Y6 .i64) H s0 a0.1) (b2 : Z9 (Y9 yT) H s1 a0.2) (hS : St H w L) :
 Calls Tryz.prog 177 #[vA ([s0] ++ [s1])] w (Vi3 (Y6 .i64) (Y9 yT) 45 r H L) := by
 have Z3 := Sub.refl H
 refine X3 Tryz.func177 rfl Tryz.ntmps177 rfl ?_
 unfold Zx2 at q0
 refine Z2 (Z0 ?_)
 refine S3 (v := vA ([s0] ++ [s1])) ([s0] ++ [s1]).toArray rfl rfl hS rfl ?_
 intro b1 _ hS
 refine W6 (z := vA ([vN] ++ [vN])) ([vN] ++ [vN]).toArray Zr4.zero rfl hS rfl ?_
 intro b4 _ hS
 refine Z1 (Z2 (Z0 (Y2 R4 rfl rfl ?_)))
 refine Y3 (s0) M9 rfl (hS.get (mR mL)) rfl rfl ?_
 obtain ⟨r7, f8, q0⟩ := bind_some q0
 refine X6 Tryz.call240 (S2 rfl) rfl (Xe4 f8 b6 hS) ?_
 rintro v7 H7 _ d4 hS b3
 have Z3 := Z3.trans d4
 have b6 := b6.mono d4
 have b2 := b2.mono d4
 refine Zl9 ([v7] ++ [vN]) We6 (K6 rfl) (Q5 rfl b3.cellsL rfl (nl rfl) (Zh6 rfl)) rfl ?_
 refine W6 (z := vA ([vN] ++ [vN])) ([vN] ++ [vN]).toArray Zr4.zero rfl hS rfl ?_
 intro b9 _ hS
 refine X5 (v := vA ([v7] ++ [vN])) (vs := ([v7] ++ [vN]).toArray) (cs := ([vN] ++ [vN]).toArray) S5 rfl rfl rfl hS rfl (R8 (U0 b3.isOne) (U0 rfl)) rfl ?_
 intro _ hS
 refine Z1 (Z2 (Z2 (Z0 (Z5 (vI 0) rfl rfl (Z1 (Y7 ?_))))))
 have d5 : W3 (Y9 yT) 45 H7 (.slice none 0 0) [] [] := W3.nil _ _ _
 obtain ⟨d6, a7, d7⟩ := bind_some q0
 refine W1 (id := 0) (fun k f w => ∃ (a6 : Int) (a1 : (List MpT)) (H1 : FH) (a4 : OL) (a3 : Value), Zf0 K a0 k a6 a1 = some d6 ∧ Sub H H1 ∧ St H1 w (a4 ++ ([(b9, cA ([v7] ++ [a3]) 31)] ++ ([(b4, cA ([vN] ++ [vN]) 31)] ++ ([(b1, cA ([s0] ++ [s1]) 31)] ++ L)))) ∧ 0 ≤ a6 ∧ W3 (Y9 yT) 45 H1 a3 a1 a4 ∧ Z9 (Y6 .i64) H1 s0 a0.1 ∧ Z9 (Y9 yT) H1 s1 a0.2 ∧ Z9 (Y6 .i64) H1 v7 r7 ∧ tv f 1 = vP b1 ∧ tv f 2 = vP b4 ∧ tv f 3 = vP b9 ∧ tv f 4 = vI a6) (fun f w => ∃ (a8 : (List MpT)) (H1 : FH) (b0 : OL) (a5 : Value), d6 = .go a8 ∧ Sub H H1 ∧ St H1 w (b0 ++ ([(b9, cA ([v7] ++ [a5]) 31)] ++ ([(b4, cA ([vN] ++ [vN]) 31)] ++ ([(b1, cA ([s0] ++ [s1]) 31)] ++ L)))) ∧ W3 (Y9 yT) 45 H1 a5 a8 b0 ∧ Z9 (Y6 .i64) H1 s0 a0.1 ∧ Z9 (Y9 yT) H1 s1 a0.2 ∧ Z9 (Y6 .i64) H1 v7 r7 ∧ tv f 2 = vP b4 ∧ tv f 3 = vP b9) rfl ?_ ?_ K ?_ ?_
 rintro f w ⟨a6, a1, H1, a4, a3, a7, _⟩
 rw [Zf0] at a7; cases a7
 rintro k _ _ f9 g0 ⟨a6, a1, e5, a4, a3, a7, Z3, hS, _, a9, b6, b2, b3, b8, c5, c0, c1⟩
 rw [Zf0] at a7
 refine Z2 (Z2 (Z0 (Z4 (vI a6) (by exact c1) rfl (Y2 P2 (by exact b8) rfl ?_))))
 refine Y3 (s1) Zd6 rfl (hS.get (mR (mR (mR mL)))) rfl rfl ?_
 have g4 := b2.bound
 refine W7 P6 rfl b2 rfl ?_
 refine V5 (k := .i64) (a := a6) (b := (a0.2.length : Int)) rfl rfl rfl (Z1 ?_)
 obtain ⟨c7, a7⟩ | ⟨c7, a7⟩ := ic a7
 refine Y0 (bT c7 rfl) (Y8 (Z2 (Y7 ?_)))
 obtain ⟨g1, g2, _, _, _, e6, e7, ⟨c9, rfl, c4⟩, e8⟩ := b2.elem (i := a6) (by omega) (by omega)
 obtain ⟨c3, e9, a7⟩ := bind_some a7
 refine U1 9 (P0 [mE 16 (vQ b9 1), mE 17 (a3), mE 18 (vQ b1 1), mE 19 (s1), mE 20 (vI a6), mE 21 (vQ g1 g2), mE 22 (vA ([c9])), (23, MP.rep (R.agg (Y9 yT)) (c3)), (24, MP.sl (Y9 yT) ([c3]))]) [] mixed rfl rfl rfl hS (Z6 rfl ?_ (Z6 rfl ?_ (Z6 rfl ?_ (Z6 rfl ?_ (Z6 rfl ?_ (Z6 rfl ?_ (Z6 rfl ?_ (Z6 rfl ?_ (Z6 rfl ?_ U7))))))))) ?_
 exact W5 fun S B => Y2 P2 (evT (B 3 rfl) c0) rfl (qz S)
 exact X2 fun S V => Y3 (a3) Zd6 (eM (V 0 16 rfl rfl)) (S.get (mR (mR mL))) rfl rfl (qz S)
 exact W5 fun S B => Y2 P2 (evT (B 1 rfl) b8) rfl (qz S)
 exact X2 fun S V => Y3 (s1) Zd6 (eM (V 2 18 rfl rfl)) (S.get (mR (mR (mR (mR mL))))) rfl rfl (qz S)
 exact W5 fun S B => Z4 (vI a6) (evT (B 4 rfl) c1) rfl (qz S)
 exact X2 fun S V => X9 P6 rfl (eM (V 3 19 rfl rfl)) e6 (eM (V 4 20 rfl rfl)) (by omega) (by omega) rfl (qz S)
 exact E6 fun s S V => W9 ([c9]) U2 (eM (V 5 21 rfl rfl)) (S.froz _ _ (s.1 _ _ e7)) rfl e8 rfl (qz S)
 intro _ _ _ _ f0 hS _ f1 hcq
 have c4 := c4.mono f0
 refine X6 Tryz.call241 (U9 (eM (f1 6 22 rfl rfl)) rfl) rfl (Xc0 e9 c4 hS) ?_
 rintro _ _ _ f2 hS f3
 exact qn f2 rfl hS f3
 intro _ _ _ _ _ hS _ f4 hcq
 obtain ⟨_, g3, ⟨_, rfl, ⟨d8, rfl, d2⟩⟩⟩ := gvR (f4 7 23 rfl rfl)
 refine D9 (τ := (Y9 yT)) P6 I0 rfl [vA ([d8])] [c3] rfl rfl (K6 g3) (Zi6 ⟨_, rfl, d2⟩) (by decide) (by decide) hS rfl ?_
 intro _ _ _ e1 hS e2
 exact qn e1 rfl hS e2
 intro _ f5 d9 b7 hS c2 d0 hcq
 have hS : St d9 f5 (a4 ++ ([(b9, cA ([v7] ++ [a3]) 31)] ++ ([(b4, cA ([vN] ++ [vN]) 31)] ++ ([(b1, cA ([s0] ++ [s1]) 31)] ++ L)))) := hS
 have Z3 := Z3.trans b7
 have b6 := b6.mono b7
 have b2 := b2.mono b7
 have b3 := b3.mono b7
 have a9 := a9.mono b7
 have e0 := evT (c2 3 rfl) c0
 obtain ⟨_, f6, e3⟩ := gvS (d0 8 24 (by decide) rfl)
 obtain ⟨e4, a7⟩ := gd a7
 refine N5 (τ := (Y9 yT)) Yl7 rfl (by exact (eM (d0 1 17 (by decide) rfl))) (by exact f6) a9 hS e3 e4 rfl ?_
 intro c8 _ f7 d1 hS
 refine Y2 P2 (by exact e0) rfl ?_
 have hS := hS.perm V1
 refine Zb3 (v := c8) (cs := ([v7] ++ [a3]).toArray) (cs' := ([v7] ++ [c8]).toArray) Zd6 rfl rfl hS d1.isOne rfl (nl rfl) rfl ?_
 intro _ hS
 have hS := hS.perm V1.symm
 refine Z1 (X4 (Z0 (Z4 (vI a6) (by exact (evT (c2 4 rfl) c1)) rfl ?_)))
 refine W8 (a6 + 1) rfl rfl (IntWalk.i64_in _ (by omega)) rfl (Z5 (vI (a6 + 1)) rfl rfl (Z1 ?_))
 exact f9 _ _ ⟨(a6 + 1), (a1 ++ [c3]), d9, f7, c8, a7, Z3, hS, (by omega), d1, b6, b2, b3, (evT (c2 1 rfl) b8), (evT (c2 2 rfl) c5), e0, rfl⟩
 refine Z8 (bF c7 rfl) ?_
 refine W0 rfl ?_
 obtain rfl := oi a7
 exact g0 _ _ ⟨a1, e5, a4, a3, rfl, Z3, hS, a9, b6, b2, b3, c5, c0⟩
 exact ⟨0, ([] : List MpT), H7, ([]), (vN), a7, Z3, hS, (by omega), d5, b6, b2, b3, rfl, rfl, rfl, rfl⟩
 rintro _ _ ⟨a8, _, b0, a5, rfl, Z3, hS, b5, b6, b2, b3, c6, d3⟩
 dsimp only [Ex.elim] at d7
 refine Z2 (Z0 ?_)
 refine X7 S5 (by exact d3) (hS.get (mR mL)) rfl rfl ?_
 have hS := hS.perm Q8
 refine X5 (v := vA ([v7] ++ [a5])) (vs := ([v7] ++ [a5]).toArray) (cs := ([vN] ++ [vN]).toArray) S5 (by exact c6) rfl rfl hS rfl (R8 (U0 b3.isOne) (U0 b5.isOne)) rfl ?_
 intro _ hS
 have hS := hS.perm Q8.symm
 refine Z1 ?_
 refine X0 (vs := [vA ([v7] ++ [a5])]) Tryz.func177 ⟨⟨_, (by exact c6), V6 S5 (hS.get (mR (mR mL))) rfl⟩, trivial⟩ ?_
 have hS := St.dropMid hS
 have hS := St.dropMid hS
 have hS := St.dropMid hS
 obtain rfl := oi d7
 exact ⟨_, _, _, _, rfl, Z3, hS, b3, b5⟩
def Zm4 (K : Nat) (d9 : Int → Int → Option (Ex (Int × Bool) (Int))) (a6 : Int) (a3 : Int) (a8 : Bool) : Option (Ex (Int × Bool) (Int)) := (if a8 = true then some (.ret (0, false)) else d9 a6 (a3 + 1))
def R1 (K : Nat) (a0 : (List Int)) (a1 : MpT) : Nat → Int → Int → Option (Ex (Int × Bool) (Int))
 | 0, _, _ => none
 | k + 1, a5, a3 => (if a3 < (a1.length : Int) then ((Zi2 K ((rd a1 a3).1)).bind fun e0 => ((Zl4 K e0 a0).bind fun a6 => (if 0 ≤ a5 then Zm4 K (R1 K a0 a1 k) a6 a3 (!decide (a6 = a5)) else Zm4 K (R1 K a0 a1 k) a6 a3 false))) else some (.go a5))
def Zy6 (K : Nat) (a0 : (List Int)) (a1 : MpT) : Option (Int × Bool) := ((R1 K a0 a1 K (-1) 0).bind (Ex.elim (fun r => some r) (fun s => (fun (b2 : Int) => some (b2, true)) s)))
theorem Yx0 {a0 : (List Int)} {a1 : MpT} {r : (Int × Bool)} (q0 : Zy6 K a0 a1 = some r) (b3 : Z9 (Y6 .i64) H s0 a0) (a7 : Z9 yT H s1 a1) (hS : St H w L) :
 Calls Tryz.prog 127 #[s0, vA ([s1])] w (T2 (fun v G => (R.t2 (R.int .i64) R.bool).p G v r) H L) := by
 have Z3 := Sub.refl H
 refine X3 Tryz.func127 rfl Tryz.ntmps127 rfl ?_
 unfold Zy6 at q0
 refine Z2 (Z0 ?_)
 refine S3 (v := vA ([s1])) ([s1]).toArray rfl rfl hS rfl ?_
 intro b1 _ hS
 refine Z5 (vI 0) rfl rfl (Z5 (vB false) rfl rfl (Z1 (Z2 (Z0 (Z5 (vI (-1)) rfl rfl (Z1 (Z2 (Z2 (Z0 (Y2 V9 rfl rfl ?_))))))))))
 refine Y3 (s1) Q4 rfl (hS.get mL) rfl rfl ?_
 have e6 := a7.bound
 refine W7 R7 rfl a7 rfl (Z4 (vI 0) rfl rfl (Z1 (Y7 ?_)))
 obtain ⟨c2, a4, c1⟩ := bind_some q0
 refine W1 (id := 0) (fun k f w => ∃ (a5 : Int) (a3 : Int) (H1 : FH), R1 K a0 a1 k a5 a3 = some c2 ∧ Sub H H1 ∧ St H1 w ([(b1, cA ([s1]) 45)] ++ L) ∧ 0 ≤ a3 ∧ Z9 (Y6 .i64) H1 s0 a0 ∧ Z9 yT H1 s1 a1 ∧ tv f 0 = s0 ∧ tv f 6 = vI a5 ∧ tv f 11 = s1 ∧ tv f 12 = vI (a1.length : Int) ∧ tv f 13 = vI a3) (fun f w => ∃ (b2 : Int) (H1 : FH), c2 = .go b2 ∧ Sub H H1 ∧ St H1 w ([(b1, cA ([s1]) 45)] ++ L) ∧ Z9 yT H1 s1 a1 ∧ tv f 6 = vI b2) rfl ?_ ?_ K ?_ ?_
 rintro f w ⟨a5, a3, H1, a4, _⟩
 rw [R1] at a4; cases a4
 rintro k _ _ e1 e2 ⟨a5, a3, d6, a4, Z3, hS, _, b3, a7, b8, b9, b5, b6, a9⟩
 rw [R1] at a4
 refine Z2 (Z0 ?_)
 refine V5 (k := .i64) (a := a3) (b := (a1.length : Int)) (by exact a9) (by exact b6) rfl (Z1 (Z2 ?_))
 obtain ⟨d0, a4⟩ | ⟨d0, a4⟩ := ic a4
 refine Y0 (bT d0 rfl) (Y8 (Z2 (Y7 (Z2 (Z0 ?_)))))
 obtain ⟨_, _, _, _, _, e3, e4, ⟨_, _, rfl, rfl, rfl⟩, e5⟩ := a7.elem (i := a3) (by omega) (by omega)
 refine X9 R7 rfl (by exact b5) e3 (by exact a9) (by omega) (by omega) rfl ?_
 refine W9 (Z7 .u8 ((rd a1 a3).1) ++ [vI ((rd a1 a3).2)]) Zt9 rfl (hS.froz _ _ e4) rfl e5 rfl ?_
 refine W6 (z := vA (Z7 .u8 (fun _ => 0) ++ [vI 0])) (Z7 .u8 (fun _ => 0) ++ [vI 0]).toArray Ya6.zero rfl hS rfl ?_
 intro b7 _ hS
 refine X5 (v := vA (Z7 .u8 ((rd a1 a3).1) ++ [vI ((rd a1 a3).2)])) (vs := (Z7 .u8 ((rd a1 a3).1) ++ [vI ((rd a1 a3).2)]).toArray) (cs := (Z7 .u8 (fun _ => 0) ++ [vI 0]).toArray) Zt9 rfl rfl rfl hS rfl (R8 (S4 .u8 ((rd a1 a3).1)) (U0 rfl)) rfl ?_
 intro _ hS
 refine Z1 (Z2 (Z0 (Y2 M1 rfl rfl ?_)))
 refine W9 (Z7 .u8 ((rd a1 a3).1)) M2 rfl (hS.get (o := cA (Z7 .u8 ((rd a1 a3).1) ++ [vI ((rd a1 a3).2)]) 78) mL) rfl (fun j hj => Zm0 ([]) (Z7 .u8 ((rd a1 a3).1)) (([vI ((rd a1 a3).2)])) j hj) rfl ?_
 obtain ⟨_, d7, a4⟩ := bind_some a4
 refine X6 Tryz.call192 (S2 rfl) rfl (Zt5 d7  hS) ?_
 rintro _ _ _ c3 hS ⟨_, rfl, rfl⟩
 have Z3 := Z3.trans c3
 have b3 := b3.mono c3
 have a7 := a7.mono c3
 refine Z4 (s0) (by exact b8) rfl ?_
 obtain ⟨a6, d8, a4⟩ := bind_some a4
 refine X6 Tryz.call215 (U9 rfl rfl) rfl (Yo8 d8 b3 hS) ?_
 rintro _ d4 _ c4 hS rfl
 have Z3 := Z3.trans c4
 have b3 := b3.mono c4
 have a7 := a7.mono c4
 refine Z5 (vI a6) rfl rfl (Z1 (Z2 (Z2 ?_)))
 refine Zb0 (fun f w => ∃ (a8 : Bool) (H1 : FH), Zm4 K (R1 K a0 a1 k) a6 a3 a8 = some c2 ∧ Sub H H1 ∧ St H1 w ([(b7, cA (Z7 .u8 ((rd a1 a3).1) ++ [vI ((rd a1 a3).2)]) 78)] ++ ([(b1, cA ([s1]) 45)] ++ L)) ∧ Z9 (Y6 .i64) H1 s0 a0 ∧ Z9 yT H1 s1 a1 ∧ tv f 0 = s0 ∧ tv f 9 = vI a6 ∧ tv f 11 = s1 ∧ tv f 12 = vI (a1.length : Int) ∧ tv f 13 = vI a3 ∧ tv f 28 = vB a8) ?_ ?_
 rintro _ _ ⟨a8, d3, b4, Z3, hS, b3, a7, d1, d2, c6, c7, c8, c0⟩
 unfold Zm4 at b4
 obtain ⟨c5, b4⟩ | ⟨c5, b4⟩ := ic b4
 refine Y0 (Eq.trans (by exact c0) (congrArg vB c5)) (Z2 (Z0 (Z5 (vI 0) rfl rfl (Z5 (vB false) rfl rfl (Z1 ?_)))))
 refine X0 (vs := [vI 0, vB false]) Tryz.func127 ⟨rfl, rfl, trivial⟩ ?_
 obtain rfl := oi b4
 dsimp only [Ex.elim] at c1
 obtain rfl := oi c1
 exact ⟨_, _, rfl, Z3, (St.dropA (St.dropA hS)), ⟨_, _, rfl, rfl, rfl⟩⟩
 refine Z8 (Eq.trans (by exact c0) (congrArg vB (X8 c5))) (Y8 (Z0 (Z4 (vI a6) (by exact d2) rfl (Z5 (vI a6) rfl rfl (Z1 (X4 (Z0 ?_)))))))
 refine W8 (a3 + 1) (by exact c8) rfl (IntWalk.i64_in _ (by omega)) rfl (Z4 (vI (a3 + 1)) rfl rfl (Z1 ?_))
 have hS := St.dropA hS
 exact e1 _ _ ⟨a6, (a3 + 1), d3, b4, Z3, hS, (by omega), b3, a7, d1, rfl, c6, c7, rfl⟩
 intro d5
 refine Z0 (Z4 (vI a5) (by exact b9) rfl ?_)
 refine Yg8 (k := .i64) (a := a5) (b := 0) rfl rfl rfl (Z4 (vB (decide (0 ≤ a5))) rfl rfl ?_)
 obtain ⟨b0, a4⟩ | ⟨b0, a4⟩ := ic a4
 refine Y4 rfl rfl (bT b0 rfl) (Z4 (vI a6) rfl rfl ?_)
 refine Y4 rfl rfl (bT b0 rfl) (Z4 (vI a5) (by exact b9) rfl ?_)
 refine Y4 rfl rfl (bT b0 rfl) ?_
 refine L7 (k := .i64) (a := a6) (b := a5) rfl rfl rfl ?_
 refine V0 (t := true) (vB (!decide (a6 = a5))) (bT b0 rfl) ((if_pos rfl).trans rfl) rfl (Z1 ?_)
 exact d5 _ _ ⟨(!decide (a6 = a5)), d4, a4, Z3, hS, b3, a7, b8, rfl, b5, b6, a9, rfl⟩
 refine Y1 rfl rfl (bF b0 rfl) rfl rfl rfl (Y1 rfl rfl (bF b0 rfl) rfl rfl rfl (Y1 rfl rfl (bF b0 rfl) rfl rfl rfl ?_))
 refine V0 (t := false) (vB false) (bF b0 rfl) ((if_neg Bool.false_ne_true).trans rfl) rfl (Z1 ?_)
 exact d5 _ _ ⟨false, d4, a4, Z3, hS, b3, a7, b8, rfl, b5, b6, a9, rfl⟩
 refine Z8 (bF d0 rfl) ?_
 refine W0 rfl ?_
 obtain rfl := oi a4
 exact e2 _ _ ⟨a5, d6, rfl, Z3, hS, a7, b9⟩
 exact ⟨(-1), 0, H, a4, Z3, hS, (by omega), b3, a7, rfl, rfl, rfl, rfl, rfl⟩
 rintro _ _ ⟨b2, _, rfl, Z3, hS, a7, c9⟩
 dsimp only [Ex.elim] at c1
 refine Z2 (Z0 (Z4 (vI b2) (by exact c9) rfl (Z5 (vI b2) rfl rfl (Z5 (vB true) rfl rfl (Z1 ?_)))))
 refine X0 (vs := [vI b2, vB true]) Tryz.func127 ⟨rfl, rfl, trivial⟩ ?_
 obtain rfl := oi c1
 exact ⟨_, _, rfl, Z3, (St.dropA hS), ⟨_, _, rfl, rfl, rfl⟩⟩
def Zc6 (K : Nat) (a0 : Int) : Nat → Int → (List MpT) → Option (Ex (List MpT) ((List MpT)))
 | 0, _, _ => none
 | k + 1, a4, a3 => (if a4 < a0 then ((G8 K a4).bind fun b2 => (if a3.length + ([(F6 ([] : MpT) b2 1)]).length ≤ 1099511627776 then Zc6 K a0 k (IntKind.i64.wrap (a4 + 1)) (a3 ++ [(F6 ([] : MpT) b2 1)]) else none)) else some (.go a3))
def Zu3 (K : Nat) (a0 : Int) : Option (List MpT) := ((Zc6 K a0 K 0 ([] : List MpT)).bind (Ex.elim (fun r => some r) (fun s => (fun (a9 : (List MpT)) => some a9) s)))
theorem Xb9 {a0 : Int} {r : (List MpT)} (q0 : Zu3 K a0 = some r) (hS : St H w L) :
 Calls Tryz.prog 250 #[vI a0] w (Wt0 (Ze6 .i64) 107 r H L) := by
 have Z3 := Sub.refl H
 refine X3 Tryz.func250 rfl Tryz.ntmps250 rfl ?_
 unfold Zu3 at q0
 refine Z2 (Z0 (Z5 (vN) rfl rfl (Z1 (Z2 (Z0 ?_)))))
 refine Zq2 (τ := (Ze6 .i64)) Yj5 Xa8 rfl hS rfl ?_
 intro u1 _ C3 d2 hS
 refine Z5 (u1) rfl rfl (Z1 (Z2 (Z2 (Z0 (Z4 (vI a0) rfl rfl (Z4 (vI 0) rfl rfl (Z1 (Y7 ?_))))))))
 obtain ⟨b9, a5, c0⟩ := bind_some q0
 refine W1 (id := 0) (fun k f w => ∃ (a4 : Int) (a3 : (List MpT)) (H1 : FH) (a8 : OL) (a6 : Value), Zc6 K a0 k a4 a3 = some b9 ∧ Sub H H1 ∧ St H1 w (a8 ++ L) ∧ W3 (Ze6 .i64) 107 H1 a6 a3 a8 ∧ tv f 3 = a6 ∧ tv f 6 = vI a0 ∧ tv f 7 = vI a4) (fun f w => ∃ (a9 : (List MpT)) (H1 : FH) (b0 : OL) (a7 : Value), b9 = .go a9 ∧ Sub H H1 ∧ St H1 w (b0 ++ L) ∧ W3 (Ze6 .i64) 107 H1 a7 a9 b0 ∧ tv f 3 = a7) rfl ?_ ?_ K ?_ ?_
 rintro f w ⟨a4, a3, H1, a8, a6, a5, _⟩
 rw [Zc6] at a5; cases a5
 rintro k _ _ d3 d4 ⟨a4, a3, c5, a8, a6, a5, Z3, hS, a1, b3, b4, b1⟩
 rw [Zc6] at a5
 refine Z2 (Z0 ?_)
 refine V5 (k := .i64) (a := a4) (b := a0) (by exact b1) (by exact b4) rfl (Z1 (Z2 ?_))
 obtain ⟨c1, a5⟩ | ⟨c1, a5⟩ := ic a5
 refine Y0 (bT c1 rfl) (Y8 (Z2 (Y7 (Z2 (Z0 (Z4 (vI a4) (by exact b1) rfl (Z5 (vI a4) rfl rfl (Z1 (Z0 (Z4 (a6) (by exact b3) rfl ?_))))))))))
 refine Zk3 (k := .i64) hS rfl ?_
 intro m7 _ _ b6 hS
 refine Z4 (vI a4) rfl rfl ?_
 obtain ⟨b2, c6, a5⟩ := bind_some a5
 refine X6 Tryz.call251 (S2 rfl) rfl (Zd8 c6  hS) ?_
 rintro _ _ _ b7 hS ⟨_, rfl, rfl⟩
 have Z3 := Z3.trans b7
 have a1 := a1.mono b7
 have b6 := b6.mono b7
 refine Yb9 (a := b2) (m := 1) Zi9 rfl rfl rfl b6 hS ?_
 intro _ _ c7 hS
 refine Z4 (m7) rfl rfl ?_
 obtain ⟨_, c2, hS, c8⟩ := c7.freeze hS
 have Z3 := Z3.trans c2
 have a1 := a1.mono c2
 refine D9 (τ := (Ze6 .i64)) Yj5 Xa8 rfl [m7] [(F6 ([] : MpT) b2 1)] rfl rfl (K6 rfl) (Zi6 c8.relv) (by decide) (by decide) hS rfl ?_
 intro _ d5 _ c3 hS c9
 have Z3 := Z3.trans c3
 have a1 := a1.mono c3
 obtain ⟨d0, a5⟩ := gd a5
 refine N5 (τ := (Ze6 .i64)) Xr4 rfl rfl rfl a1 hS c9 d0 rfl ?_
 intro c4 _ d6 d1 hS
 refine Z5 (c4) rfl rfl (Z1 (X4 (Z0 ?_)))
 refine W8 (IntKind.i64.wrap (a4 + 1)) (by exact b1) rfl rfl rfl (Z4 (vI (IntKind.i64.wrap (a4 + 1))) rfl rfl (Z1 ?_))
 exact d3 _ _ ⟨(IntKind.i64.wrap (a4 + 1)), (a3 ++ [(F6 ([] : MpT) b2 1)]), d5, d6, c4, a5, Z3, hS, d1, rfl, b4, rfl⟩
 refine Z8 (bF c1 rfl) ?_
 refine W0 rfl ?_
 obtain rfl := oi a5
 exact d4 _ _ ⟨a3, c5, a8, a6, rfl, Z3, hS, a1, b3⟩
 exact ⟨0, ([] : List MpT), H, C3, u1, a5, Z3, hS, d2, rfl, rfl, rfl⟩
 rintro _ _ ⟨a9, _, b0, a7, rfl, Z3, hS, b5, b8⟩
 dsimp only [Ex.elim] at c0
 refine Z2 (Z0 (Z4 (a7) (by exact b8) rfl (Z5 (a7) rfl rfl (Z1 ?_))))
 refine X0 (vs := [a7]) Tryz.func250 ⟨rfl, trivial⟩ ?_
 obtain rfl := oi c0
 exact ⟨_, _, _, rfl, Z3, hS, b5⟩
def F0 (K : Nat) (a0 : A8) (a1 : Int) : Option MpT := ((Zc0 K a1).bind fun r7 => (if r7 = 0 then some ([] : List (A8 × Int)) else ((Zc0 K a1).bind fun a3 => some ([(a0, a3)]))))
theorem Zl2 {a0 : A8} {a1 : Int} {r : MpT} (q0 : F0 K a0 a1 = some r) (hS : St H w L) :
 Calls Tryz.prog 208 #[vA (Z7 .u8 a0), vI a1] w (T2 (fun v G => (R.agg (Y9 yT)).p G v r) H L) := by
 have Z3 := Sub.refl H
 refine X3 Tryz.func208 rfl Tryz.ntmps208 rfl ?_
 unfold F0 at q0
 refine Z2 (Z0 ?_)
 refine S3 (v := vA (Z7 .u8 a0)) (Z7 .u8 a0).toArray rfl rfl hS rfl ?_
 intro b1 _ hS
 refine W6 (z := vA ([vN])) ([vN]).toArray I0.zero rfl hS rfl ?_
 intro b4 _ hS
 refine Z1 (Z2 (Z2 (Z0 (Z4 (vI a1) rfl rfl ?_))))
 obtain ⟨r7, c1, q0⟩ := bind_some q0
 refine X6 Tryz.call209 (S2 rfl) rfl (Zf2 c1  hS) ?_
 rintro _ _ _ c2 hS rfl
 have Z3 := Z3.trans c2
 refine Zc2 (k := .i64) (a := r7) (b := 0) rfl rfl rfl (Z1 ?_)
 obtain ⟨a6, q0⟩ | ⟨a6, q0⟩ := ic q0
 refine Y0 (bT a6 rfl) (Z2 (Z0 ?_))
 refine R6 (vA ([vN])) Yf8 rfl ?_
 refine X5 (v := vA ([vN])) (vs := ([vN]).toArray) (cs := ([vN]).toArray) U2 rfl rfl rfl hS rfl (U0 rfl) rfl ?_
 intro _ hS
 refine Z1 ?_
 refine X0 (vs := [vA ([vN])]) Tryz.func208 ⟨⟨_, rfl, V6 U2 (hS.get mL) rfl⟩, trivial⟩ ?_
 obtain rfl := oi q0
 exact ⟨_, _, rfl, Z3, (St.dropA (St.dropA hS)), ⟨_, rfl, ⟨_, rfl, Z9.nil⟩⟩⟩
 refine Z8 (bF a6 rfl) (Y8 (Z2 ?_))
 obtain ⟨a3, a9, q0⟩ := bind_some q0
 refine U1 6 (P0 [mE 9 (vA (Z7 .u8 a0)), mE 10 (vI a1), mE 11 (vI a3), mE 12 (vA (Z7 .u8 a0 ++ [vI a3])), (13, MP.sl yT ([(a0, a3)])), (14, MP.rep (R.agg (Y9 yT)) ([(a0, a3)]))]) [] mixed rfl rfl rfl hS (Z6 rfl ?_ (Z6 rfl ?_ (Z6 rfl ?_ (Z6 rfl ?_ (Z6 rfl ?_ (Z6 rfl ?_ U7)))))) ?_
 exact W5 fun S B => X7 M2 (evT (B 2 rfl) rfl) (S.get (mR (mR mL))) rfl rfl (qz S)
 exact W5 fun S B => Z4 (vI a1) (evT (B 1 rfl) rfl) rfl (qz S)
 intro _ _ _ _ _ hS _ b0 hcq
 refine X6 Tryz.call209 (S2 (eM (b0 1 10 rfl rfl))) rfl (Zf2 a9  hS) ?_
 rintro _ _ _ b2 hS rfl
 exact qn b2 rfl hS rfl
 exact X2 fun S V => Zl9 (Z7 .u8 a0 ++ [vI a3]) Xf8 (Zz1 (eM (V 0 9 rfl rfl)) (eM (V 2 11 rfl rfl))) (Q5 rfl rfl rfl (nl rfl) (Q5 rfl rfl rfl (nl rfl) (Zh6 rfl))) rfl (qz S)
 intro _ _ _ _ _ hS _ b3 hcq
 refine D9 (τ := yT) R7 Ya6 rfl [vA (Z7 .u8 a0 ++ [vI a3])] [(a0, a3)] rfl rfl (K6 (eM (b3 3 12 rfl rfl))) (Zi6 ⟨_, _, rfl, rfl, rfl⟩) (by decide) (by decide) hS rfl ?_
 intro _ _ _ b5 hS b6
 exact qn b5 rfl hS b6
 intro _ _ _ _ _ hS _ b7 hcq
 obtain ⟨c3, c4, a7⟩ := gvS (b7 4 13 rfl rfl)
 refine Zl9 ([c3]) Vi6 (K6 c4) (Q5 rfl a7.cellsL rfl (nl rfl) (Zh6 rfl)) rfl ?_
 exact qn (.refl _) rfl hS ⟨_, rfl, ⟨_, rfl, a7⟩⟩
 intro c5 c6 c7 b8 hS b9 c0 hcq
 have hS : St c7 c6 ([(b4, cA ([vN]) 45)] ++ ([(b1, cA (Z7 .u8 a0) 72)] ++ L)) := hS
 have Z3 := Z3.trans b8
 have a8 : tv c5 4 = vP b4 := Eq.trans (b9 4 rfl) rfl
 obtain ⟨_, c8, ⟨_, rfl, ⟨a4, rfl, a5⟩⟩⟩ := gvR (c0 5 14 (by decide) rfl)
 refine X5 (v := vA ([a4])) (vs := ([a4]).toArray) (cs := ([vN]).toArray) U2 (by exact a8) (by exact c8) rfl hS rfl (U0 a5.isOne) rfl ?_
 intro _ hS
 refine Z1 ?_
 refine X0 (vs := [vA ([a4])]) Tryz.func208 ⟨⟨_, (by exact a8), V6 U2 (hS.get mL) rfl⟩, trivial⟩ ?_
 obtain rfl := oi q0
 exact ⟨_, _, rfl, Z3, (St.dropA (St.dropA hS)), ⟨_, rfl, ⟨_, rfl, a5⟩⟩⟩
def Zx1 (K : Nat) (a0 : MpT) (a1 : Int) : Option Int := ((Zz7 K a0 a1).bind fun r4 => (if r4 < 0 then some (-1) else some r4))
theorem Xg7 {a0 : MpT} {a1 : Int} {r : Int} (q0 : Zx1 K a0 a1 = some r) (a4 : Z9 yT H s0 a0) (hS : St H w L) :
 Calls Tryz.prog 24 #[vA ([s0]), vI a1] w (T2 (fun v G => (R.int .i64).p G v r) H L) := by
 have Z3 := Sub.refl H
 refine X3 Tryz.func24 rfl Tryz.ntmps24 rfl ?_
 unfold Zx1 at q0
 refine Z2 (Z0 ?_)
 refine S3 (v := vA ([s0])) ([s0]).toArray rfl rfl hS rfl ?_
 intro _ _ hS
 refine Z5 (vI 0) rfl rfl (Z1 (Z2 (Z0 (Y2 Wb9 rfl rfl ?_))))
 refine Y3 (s0) Ve8 rfl (hS.get mL) rfl rfl (Z4 (vI a1) rfl rfl ?_)
 obtain ⟨r4, a5, q0⟩ := bind_some q0
 refine X6 Tryz.call89 (U9 rfl rfl) rfl (Xb4 a5 a4 hS) ?_
 rintro _ _ _ a6 hS rfl
 have Z3 := Z3.trans a6
 refine Z5 (vI r4) rfl rfl (Z1 (Z2 (Z2 (Z0 (Z4 (vI r4) rfl rfl ?_)))))
 refine V5 (k := .i64) (a := r4) (b := 0) rfl rfl rfl (Z1 ?_)
 obtain ⟨a3, q0⟩ | ⟨a3, q0⟩ := ic q0
 refine Y0 (bT a3 rfl) (Z2 (Z0 (Z5 (vI (-1)) rfl rfl (Z1 ?_))))
 refine X0 (vs := [vI (-1)]) Tryz.func24 ⟨rfl, trivial⟩ ?_
 obtain rfl := oi q0
 exact ⟨_, _, rfl, Z3, (St.dropA hS), rfl⟩
 refine Z8 (bF a3 rfl) (Y8 (Z2 (Z0 (Z4 (vI r4) rfl rfl (Z5 (vI r4) rfl rfl (Z1 ?_))))))
 refine X0 (vs := [vI r4]) Tryz.func24 ⟨rfl, trivial⟩ ?_
 obtain rfl := oi q0
 exact ⟨_, _, rfl, Z3, (St.dropA hS), rfl⟩
def Zh2 (K : Nat) (a0 : (List Int)) (a1 : Int) : Option Bool := ((Zr6 K a0 a1).bind fun r1 => some (decide (0 ≤ r1)))
theorem Yf1 {a0 : (List Int)} {a1 : Int} {r : Bool} (q0 : Zh2 K a0 a1 = some r) (a3 : Z9 (Y6 .i64) H s0 a0) (hS : St H w L) :
 Calls Tryz.prog 275 #[s0, vI a1] w (T2 (fun v G => R.bool.p G v r) H L) := by
 have Z3 := Sub.refl H
 refine X3 Tryz.func275 rfl Tryz.ntmps275 rfl ?_
 unfold Zh2 at q0
 refine Z2 (Z0 (Z5 (vB false) rfl rfl (Z1 (Z2 (Z0 (Z4 (s0) rfl rfl (Z4 (vI a1) rfl rfl ?_)))))))
 obtain ⟨r1, a4, q0⟩ := bind_some q0
 refine X6 Tryz.call286 (U9 rfl rfl) rfl (Yj1 a4 a3 hS) ?_
 rintro _ _ _ a5 hS rfl
 have Z3 := Z3.trans a5
 refine Yg8 (k := .i64) (a := r1) (b := 0) rfl rfl rfl (Z5 (vB (decide (0 ≤ r1))) rfl rfl (Z1 ?_))
 refine X0 (vs := [vB (decide (0 ≤ r1))]) Tryz.func275 ⟨rfl, trivial⟩ ?_
 obtain rfl := oi q0
 exact ⟨_, _, rfl, Z3, hS, rfl⟩
def Zy5 (K : Nat) (a0 : Int) : Option Bool := ((Zr9 K a0 1 10006).bind fun r1 => some r1)
theorem Yy6 {a0 : Int} {r : Bool} (q0 : Zy5 K a0 = some r) (hS : St H w L) :
 Calls Tryz.prog 212 #[vI a0] w (T2 (fun v G => R.bool.p G v r) H L) := by
 have Z3 := Sub.refl H
 refine X3 Tryz.func212 rfl Tryz.ntmps212 rfl ?_
 unfold Zy5 at q0
 refine Z2 (Z0 (Z5 (vB false) rfl rfl (Z1 (Z2 (Z0 (Z4 (vI a0) rfl rfl ?_))))))
 obtain ⟨r1, a1, q0⟩ := bind_some q0
 refine X6 Tryz.call81 (G7 rfl rfl rfl) rfl (Ym5 a1  hS) ?_
 rintro _ _ _ a3 hS rfl
 have Z3 := Z3.trans a3
 refine Z5 (vB r1) rfl rfl (Z1 ?_)
 refine X0 (vs := [vB r1]) Tryz.func212 ⟨rfl, trivial⟩ ?_
 obtain rfl := oi q0
 exact ⟨_, _, rfl, Z3, hS, rfl⟩
end Go.Proofs.YtabofnehiclkiaaGreat
