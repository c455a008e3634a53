/- Walks of functions: each computes its pure function, if that gives a value. -/
import Derived.Test.YtabofnehiclkiaaGreatYF14
import Derived.Test.YtabofnehiclkiaaGreatYS2
import Derived.Test.YtabofnehiclkiaaGreatYTy
import Derived.Test.YtabofnehiclkiaaGreatYF8
import Derived.Test.YtabofnehiclkiaaGreatYF9
import Derived.Test.YtabofnehiclkiaaGreatYF7
namespace Go.Proofs.YtabofnehiclkiaaGreat
open Go
set_option linter.unusedSimpArgs false
set_option linter.unusedVariables false
set_option maxRecDepth 100000
set_option maxHeartbeats 8000000
variable {K : Nat} {H : FH} {w : World} {L : OL} {s0 s1 s2 s3 s4 s5 s6 : Value}
def Ze1 (q : Int) (row : List Int) : Nat → List Int
 | 0 => row
 | k + 1 => (Ze1 q row k).set k ((IntKind.i64.wrap (rd (Ze1 q row k) (k : Int) * q)).tmod 10007)
theorem Yh5 (q : Int) (row : List Int) : ∀ k, (Ze1 q row k).length = row.length
 | 0 => rfl
 | k + 1 => by rw [Ze1, List.length_set, Yh5 q row k]
def Yq4 (d : Nat) (c : Int) (R : List (List Int)) (k : Nat) : List (List Int) :=
 if k ≠ d ∧ rd (R.getD k []) c ≠ 0 then R.set k (tkN (R.getD k []) (R.getD d []) (rd (R.getD k []) c) (R.getD d []).length) else R
def elmN (d : Nat) (c : Int) (R : List (List Int)) : Nat → List (List Int)
 | 0 => R
 | k + 1 => Yq4 d c (elmN d c R k) k
def We6 (K : Nat) (R : List (List Int)) (d : Nat) (c : Int) : Option (List (List Int) × Nat) :=
 if fi c (R.drop d) 0 < 0 then some (R, d) else
  (Zq5 K (rd ((swp R d (d + (fi c (R.drop d) 0).toNat) []).getD d []) c)).bind fun q =>
   some (elmN d c ((swp R d (d + (fi c (R.drop d) 0).toNat) []).set d (Ze1 q ((swp R d (d + (fi c (R.drop d) 0).toNat) []).getD d []) ((swp R d (d + (fi c (R.drop d) 0).toNat) []).getD d []).length)) R.length, d + 1)
def Yl6 (K n : Nat) : Nat → List (List Int) → Nat → Option (List (List Int))
 | 0, R, d => some (R.take d)
 | j + 1, R, d => if d < R.length then (We6 K R d ((n - (j + 1) : Nat) : Int)).bind fun p => Yl6 K n j p.1 p.2 else some (R.take d)
def okR (R : List (List Int)) : Bool := decide (R.length ≤ 1099511627776 ∧ (R.getD 0 []).length ≤ 1099511627776 ∧ ∀ r, r ∈ R → r.length = (R.getD 0 []).length)
def A9 (K : Nat) (R : List (List Int)) : Option (List (List Int)) := if okR R = true then Yl6 K (R.getD 0 []).length (R.getD 0 []).length R 0 else none
/-- rows of a length -/
def Un (n : Nat) (R : List (List Int)) : Prop := ∀ i, i < R.length → (R.getD i []).length = n
theorem Un.set {n : Nat} {R : List (List Int)} (h : Un n R) {i : Nat} {r : List Int} (hi : i < R.length) (hr : r.length = n) : Un n (R.set i r) := fun j hj => by
 rw [List.length_set] at hj
 rw [Ze8 _ _ _ _ _ hi]
 split
 exact hr
 exact h j hj
theorem Un.swp {n : Nat} {R : List (List Int)} (h : Un n R) {i k : Nat} (hi : i < R.length) (hk : k < R.length) : Un n (swp R i k []) := fun j hj => by
 rw [Zt5] at hj
 rw [Yg5 _ _ _ _ hi hk]
 split
 exact h i hi
 split
 exact h k hk
 exact h j hj
theorem Un.elm {n : Nat} {R : List (List Int)} (h : Un n R) (d : Nat) (c : Int) {k : Nat} (hk : k < R.length) : Un n (Yq4 d c R k) := by
 unfold Yq4
 split
 exact h.set hk (by rw [Yg8]; exact h k hk)
 exact h
theorem Wo2 (d : Nat) (c : Int) (R : List (List Int)) (k : Nat) : (Yq4 d c R k).length = R.length := by unfold Yq4; split <;> simp
theorem Zu8 (d : Nat) (c : Int) (R : List (List Int)) : ∀ k, (elmN d c R k).length = R.length
 | 0 => rfl
 | k + 1 => by rw [elmN, Wo2, Zu8 d c R k]
theorem Un.elmN {n : Nat} {R : List (List Int)} (h : Un n R) (d : Nat) (c : Int) : ∀ k, k ≤ R.length → Un n (elmN d c R k)
 | 0, _ => h
 | k + 1, hk => (Un.elmN h d c k (by omega)).elm d c (by rw [Zu8]; omega)
theorem Wh7 (d : Nat) (c : Int) (R : List (List Int)) : ∀ k, k ≤ R.length → (YtabofnehiclkiaaGreat.elmN d c R k).getD d [] = R.getD d []
 | 0, _ => rfl
 | k + 1, hk => by
  have ih := Wh7 d c R k (by omega)
  rw [YtabofnehiclkiaaGreat.elmN]
  unfold Yq4
  split
  rename_i h
  rw [Ze8 _ _ _ _ _ (by rw [Zu8]; omega), if_neg (fun e => h.1 e.symm)]
  exact ih
  exact ih
section
variable {n : Nat} {ops : Array Oper} {J : Fr → World → Prop} {r : List Oper} {f : Fr} {w : World} {d : Nat} {T : TypeId} {pos : String} {af : Array Edge} {H : FH} {L L' : OL}
/-- a row's value out of the outer slice -/
theorem Zo1 {x : Operand} {v : Value} {vals : List Value} {i : Nat} {b cp : Nat} (hv : v = .slice (some ⟨b, 0, none⟩) vals.length cp) {C0 : OL} (ho : W0 Zh6 22 H v vals C0) (hS : St H w L') (hin : ∀ x, x ∈ C0 → x ∈ L') (hx : ev f x = vQ b (i * 1)) (hi : i < vals.length) (hn : Nat.blt d n = true)
 (K : X7 Tryz.prog n ops J r (upd f d (vals.getD i undef)) w) : X7 Tryz.prog n ops J (⟨some d, .load 22 x, T, pos, af, none⟩ :: r) f w := by
 subst hv
 rcases ho with ⟨h, _⟩ | ⟨b', c', cs, hv, h1, h2, h3, rfl, h5⟩
 cases h
 cases hv
 obtain ⟨ecs, ⟨rfl, _⟩, hj⟩ := h5 i _ (List.getElem?_eq_getElem hi)
 have := hj 0 (show 0 < 1 by decide)
 rw [show Zh6.size = 1 from rfl, Nat.add_zero] at this
 exact Y1 (vals.getD i undef) P6 hx (hS.own _ (hin _ (List.mem_singleton.2 rfl))) (by rw [this, Q7 hi]; rfl) hn K
theorem Yp7 {x : Operand} {v : Value} {row : List Int} {i : Int} {b o cp : Nat} (hv : v = .slice (some ⟨b, o, none⟩) row.length cp) (hr : Rb H L' v row) {G : FH} (hs : Sub H G) (hS : St G w L') (hx : ev f x = vQ b (o + i.toNat * 1)) (h0 : 0 ≤ i) (hi : i < row.length) (hn : Nat.blt d n = true)
 (K : X7 Tryz.prog n ops J r (upd f d (vI (rd row i))) w) : X7 Tryz.prog n ops J (⟨some d, .load 2 x, T, pos, af, none⟩ :: r) f w := by
 obtain ⟨b', o', c', hv', hcell⟩ := hr.at h0 hi
 rw [hv] at hv'; cases hv'
 obtain ⟨cs, E, z, hw, hc⟩ := hcell G w hs hS
 exact Y1 (vI (rd row i)) ty2 hx hw hc hn K
end
def Zd9 (K : Nat) (a0 : ((List Int) × (List MpT))) (a1 : Int) : Option ((List MpT) × Int) := ((Zq3 K (a0.1, a0.2) a1).bind fun r4 => (if r4 = 0 then ((Zk7 K (a0.1, a0.2) a1).bind fun a7 => ((M0 K a0.1 a1).bind fun a8 => ((Zh7 K a7 a8).bind fun a5 => some (a5, 0)))) else some (([] : List MpT), r4)))
theorem Yk0 {a0 : ((List Int) × (List MpT))} {a1 : Int} {r : ((List MpT) × Int)} (q0 : Zd9 K a0 a1 = some r) (a3 : Y4 (Y9 .i64) H s0 a0.1) (a4 : Y4 (X4 yT) H s1 a0.2) (hS : St H w L) :
 Calls Tryz.prog 30 #[vA ([s0] ++ [s1]), vI a1] w (U6 (fun v G => (R.t2 (R.sl (X4 yT)) (R.int .i64)).p G v r) H L) := by
 have Z4 := Sub.refl H
 refine X1 Tryz.func30 rfl Tryz.ntmps30 rfl ?_
 unfold Zd9 at q0
 refine Z1 (Z0 ?_)
 refine T6 (v := vA ([s0] ++ [s1])) ([s0] ++ [s1]).toArray rfl rfl hS rfl ?_
 intro b1 _ hS
 refine Z5 (vN) rfl rfl (Z5 (vI 0) rfl rfl (Z2 (Z1 (Z1 (Z0 ?_)))))
 refine W3 Zz5 rfl (hS.get mL) rfl rfl (Z3 (vI a1) rfl rfl ?_)
 obtain ⟨r4, d6, q0⟩ := bind_some q0
 refine X3 Tryz.call96 (V5 rfl rfl) rfl (Yx7 d6 a3 a4 hS) ?_
 rintro _ _ _ a9 hS rfl
 have Z4 := Z4.trans a9
 have a3 := a3.mono a9
 have a4 := a4.mono a9
 refine Z5 (vI r4) rfl rfl (Z2 (Z1 (Z0 (Z3 (vI r4) rfl rfl ?_))))
 refine N8 (k := .i64) (a := r4) (b := 0) rfl rfl rfl (Z2 ?_)
 obtain ⟨b0, q0⟩ | ⟨b0, q0⟩ := ic q0
 refine Z8 (bN b0 rfl) (Y6 (Z1 ?_))
 obtain ⟨a7, b8, q0⟩ := bind_some q0
 obtain ⟨a8, b9, q0⟩ := bind_some q0
 obtain ⟨a5, c0, q0⟩ := bind_some q0
 refine W8 10 (S8 [mE 13 (vA ([s0] ++ [s1])), mE 14 (vI a1), (15, MP.rep (R.sl (X4 (Y9 .i64))) (a7)), mE 16 (vP b1), mE 17 (s0), mE 18 (vI a1), (19, MP.rep (R.sl (P0 .u8)) (a8)), (20, MP.rep (R.sl (X4 yT)) (a5)), (4, MP.sl (X4 yT) (a5)), mE 5 (vI 0)]) [] mixed rfl rfl rfl hS (Z6 rfl ?_ (Z6 rfl ?_ (Z6 rfl ?_ (Z6 rfl ?_ (Z6 rfl ?_ (Z6 rfl ?_ (Z6 rfl ?_ (Z6 rfl ?_ (Z6 rfl ?_ (Z6 rfl ?_ V2)))))))))) ?_
 exact X5 fun S B => W3 Zz5 (evT (B 2 rfl) rfl) (S.get (mR mL)) rfl rfl (qz S)
 exact X5 fun S B => Z3 (vI a1) (evT (B 1 rfl) rfl) rfl (qz S)
 intro _ _ _ _ b2 hS _ b3 hcq
 have a3 := a3.mono b2
 have a4 := a4.mono b2
 refine X3 Tryz.call98 (V5 (eM (b3 0 13 rfl rfl)) (eM (b3 1 14 rfl rfl))) rfl (Ys2 b8 a3 a4 hS) ?_
 rintro _ _ _ c1 hS c2
 exact qn c1 rfl hS c2
 exact X5 fun S B => Y3 K5 (evT (B 2 rfl) rfl) rfl (qz S)
 exact Y7 fun S V => Y1 (s0) P6 (eM (V 3 16 rfl rfl)) (S.get (mR mL)) rfl rfl (qz S)
 exact X5 fun S B => Z3 (vI a1) (evT (B 1 rfl) rfl) rfl (qz S)
 intro _ _ _ _ c3 hS _ b4 hcq
 have a3 := a3.mono c3
 refine X3 Tryz.call99 (V5 (eM (b4 4 17 rfl rfl)) (eM (b4 5 18 rfl rfl))) rfl (Zg9 b9 a3 hS) ?_
 rintro _ _ _ c4 hS c5
 exact qn c4 rfl hS c5
 intro _ _ _ _ _ hS _ b5 hcq
 obtain ⟨_, d7, c6⟩ := gvR (b5 2 15 rfl rfl)
 obtain ⟨_, d8, c7⟩ := gvR (b5 6 19 rfl rfl)
 refine X3 Tryz.call97 (V5 d7 d8) rfl (Yv6 c0 c6 c7 hS) ?_
 rintro _ _ _ c8 hS c9
 exact qn c8 rfl hS c9
 intro _ _ _ _ _ hS _ d0 hcq
 obtain ⟨d9, e0, d1⟩ := gvR (d0 7 20 rfl rfl)
 refine Z5 (d9) e0 rfl ?_
 exact qn (.refl _) rfl hS d1
 exact Vh8 fun S => Z5 (vI 0) rfl rfl (qz S)
 intro _ d2 d3 b6 hS _ a6 hcq
 have hS : St d3 d2 ([(b1, cA ([s0] ++ [s1]) 31)] ++ L) := hS
 have Z4 := Z4.trans b6
 obtain ⟨d4, d5, b7⟩ := gvS (a6 8 4 (by decide) rfl)
 refine Z2 ?_
 refine X0 (vs := [d4, vI 0]) Tryz.func30 ⟨(by exact d5), (by exact (eM (a6 9 5 (by decide) rfl))), trivial⟩ ?_
 obtain rfl := oi q0
 exact ⟨_, _, rfl, Z4, (St.dropA hS), ⟨_, _, rfl, b7, rfl⟩⟩
 refine Z9 (bO b0 rfl) (Z1 (Z0 (Z3 (vI r4) rfl rfl (Z5 (vN) rfl rfl (Z5 (vI r4) rfl rfl (Z2 ?_))))))
 refine X0 (vs := [vN, vI r4]) Tryz.func30 ⟨rfl, rfl, trivial⟩ ?_
 obtain rfl := oi q0
 exact ⟨_, _, rfl, Z4, (St.dropA hS), ⟨_, _, rfl, Y4.nil, rfl⟩⟩
def Zf7 (K : Nat) (a0 : MpT) (a1 : ((List Int) × (List MpT))) : Option Bool := ((Zq4 K a0).bind fun r5 => ((A0 K (a1.1, a1.2) r5).bind fun a6 => some (decide (0 < (a6.length : Int)))))
theorem Yl8 {a0 : MpT} {a1 : ((List Int) × (List MpT))} {r : Bool} (q0 : Zf7 K a0 a1 = some r) (b4 : Y4 yT H s0 a0) (b5 : Zs0 (Yf7 (X4 (Y9 .i64)) (X4 (X4 yT))) H s1 a1) (hS : St H w L) :
 Calls Tryz.prog 124 #[vA ([s0]), s1] w (U6 (fun v G => R.bool.p G v r) H L) := by
 obtain ⟨_, _, _, _, _, rfl, a5, ⟨_, _, rfl, ⟨_, rfl, a3⟩, ⟨_, rfl, a4⟩⟩, a9⟩ := b5
 have Z4 := Sub.refl H
 refine X1 Tryz.func124 rfl Tryz.ntmps124 rfl ?_
 unfold Zf7 at q0
 refine Z1 (Z0 ?_)
 refine T6 (v := vA ([s0])) ([s0]).toArray rfl rfl hS rfl ?_
 intro _ _ hS
 refine Z5 (vB false) rfl rfl (Z2 (Z1 (Z0 ?_)))
 refine W3 Q1 rfl (hS.get mL) rfl rfl ?_
 obtain ⟨_, b6, q0⟩ := bind_some q0
 refine U8 Tryz.call110 (R5 rfl) rfl (Yk6 b6 b4 hS) ?_
 rintro _ _ ⟨_, _, _, rfl, a7, hS, b7⟩
 refine ⟨_, rfl, ?_⟩
 have Z4 := Z4.trans a7
 have a3 := a3.mono a7
 have a4 := a4.mono a7
 have a5 := a7.1 _ _ a5
 obtain ⟨_, a8, hS, b0⟩ := b7.freeze hS
 have Z4 := Z4.trans a8
 have a3 := a3.mono a8
 have a4 := a4.mono a8
 have a5 := a8.1 _ _ a5
 obtain ⟨a6, b1, q0⟩ := bind_some q0
 refine U8 Tryz.call116 (V5 rfl rfl) rfl (Yb3 b1 ⟨_, _, _, _, _, rfl, a5, ⟨_, _, rfl, ⟨_, rfl, a3⟩, ⟨_, rfl, a4⟩⟩, a9⟩ b0 hS) ?_
 rintro _ _ ⟨_, _, _, rfl, b2, hS, b3⟩
 refine ⟨_, rfl, ?_⟩
 have Z4 := Z4.trans b2
 refine Wm3 Zp8 rfl b3 hS rfl ?_
 refine Za0 (k := .i64) (a := (a6.length : Int)) (b := 0) rfl rfl rfl (Z5 (vB (decide (0 < (a6.length : Int)))) rfl rfl (Z2 ?_))
 refine X0 (vs := [vB (decide (0 < (a6.length : Int)))]) Tryz.func124 ⟨rfl, trivial⟩ ?_
 obtain rfl := oi q0
 exact ⟨_, _, rfl, Z4, (St.dropA (St.dropA hS)), rfl⟩
end Go.Proofs.YtabofnehiclkiaaGreat
