/- Walk, rules and plain laws. -/
import Derived.Test.YtabofnehiclkiaaGreatRF15
import Derived.Test.YtabofnehiclkiaaGreatRF14
namespace Go.Proofs.YtabofnehiclkiaaGreat
open Go Go.Proofs.Tryz IntKind IntWalk List
set_option linter.all false
set_option maxRecDepth 100000
set_option maxHeartbeats 8000000
variable {K : Nat} {H : FH} {w : World} {L : OL} {s0 s1 s2 s3 s4 s5 s6 : Value}
def Zh4 (q : Int) (row : List Int) : Nat → List Int
 | 0 => row
 | k + 1 => (Zh4 q row k).set k ((i64.wrap (rd (Zh4 q row k) (k : Int) * q)).tmod 10007)
theorem Ym8 (q : Int) (row : List Int) : ∀ k, (Zh4 q row k).length = row.length
 | 0 => rfl
 | k + 1 => by rw [Zh4, length_set, Ym8 q row k]
def Yt5 (d : Nat) (c : Int) (R : List (List Int)) (k : Nat) : List (List Int) :=
 if k ≠ d ∧ rd (R.getD k []) c ≠ 0 then R.set k (tkN (R.getD k []) (R.getD d []) (rd (R.getD k []) c) (R.getD d []).length) else R
def elmN (d : Nat) (c : Int) (R : List (List Int)) : Nat → List (List Int)
 | 0 => R
 | k + 1 => Yt5 d c (elmN d c R k) k
def Wk9 (K : Nat) (R : List (List Int)) (d : Nat) (c : Int) : Option (List (List Int) × Nat) :=
 if fi c (R.drop d) 0 < 0 then some (R, d) else
  (Zu1 K (rd ((swp R d (d + (fi c (R.drop d) 0).toNat) []).getD d []) c)).bind fun q =>
   some (elmN d c ((swp R d (d + (fi c (R.drop d) 0).toNat) []).set d (Zh4 q ((swp R d (d + (fi c (R.drop d) 0).toNat) []).getD d []) ((swp R d (d + (fi c (R.drop d) 0).toNat) []).getD d []).length)) R.length, d + 1)
def Yq5 (K n : Nat) : Nat → List (List Int) → Nat → Option (List (List Int))
 | 0, R, d => some (R.take d)
 | j + 1, R, d => if d < R.length then (Wk9 K R d ((n - (j + 1) : Nat) : Int)).bind fun p => Yq5 K n j p.1 p.2 else some (R.take d)
def okR (R : List (List Int)) : Bool := decide (R.length ≤ 1099511627776 ∧ (R.getD 0 []).length ≤ 1099511627776 ∧ ∀ r, r ∈ R → r.length = (R.getD 0 []).length)
def B9 (K : Nat) (R : List (List Int)) : Option (List (List Int)) := if okR R = true then Yq5 K (R.getD 0 []).length (R.getD 0 []).length R 0 else none
def Un (n : Nat) (R : List (List Int)) : Prop := ∀ i, i < R.length → (R.getD i []).length = n
theorem Un.set {n : Nat} {R : List (List Int)} (h : Un n R) {i : Nat} {r : List Int} (hi : i < R.length) (hr : r.length = n) : Un n (R.set i r) := fun j hj => by
 rw [length_set] at hj
 rw [Zi1 _ _ _ _ _ hi]
 split
 exact hr
 exact h j hj
theorem Un.swp {n : Nat} {R : List (List Int)} (h : Un n R) {i k : Nat} (hi : i < R.length) (hk : k < R.length) : Un n (swp R i k []) := fun j hj => by
 rw [Zw3] at hj
 rw [Yk4 _ _ _ _ hi hk]
 split
 exact h i hi
 split
 exact h k hk
 exact h j hj
theorem Un.elm {n : Nat} {R : List (List Int)} (h : Un n R) (d : Nat) (c : Int) {k : Nat} (hk : k < R.length) : Un n (Yt5 d c R k) := by
 unfold Yt5
 split
 exact h.set hk (by rw [Yd3]; exact h k hk)
 exact h
theorem Wv1 (d : Nat) (c : Int) (R : List (List Int)) (k : Nat) : (Yt5 d c R k).length = R.length := by unfold Yt5; split <;> simp
theorem Zy9 (d : Nat) (c : Int) (R : List (List Int)) : ∀ k, (elmN d c R k).length = R.length
 | 0 => rfl
 | k + 1 => by rw [elmN, Wv1, Zy9 d c R k]
theorem Un.elmN {n : Nat} {R : List (List Int)} (h : Un n R) (d : Nat) (c : Int) : ∀ k, k ≤ R.length → Un n (elmN d c R k)
 | 0, _ => h
 | k + 1, hk => (Un.elmN h d c k (by omega)).elm d c (by rw [Zy9]; omega)
theorem Wn9 (d : Nat) (c : Int) (R : List (List Int)) : ∀ k, k ≤ R.length → (YtabofnehiclkiaaGreat.elmN d c R k).getD d [] = R.getD d []
 | 0, _ => rfl
 | k + 1, hk => by
  have ih := Wn9 d c R k (by omega)
  rw [YtabofnehiclkiaaGreat.elmN]
  unfold Yt5
  split
  rename_i h
  rw [Zi1 _ _ _ _ _ (by rw [Zy9]; omega), if_neg (fun e => h.1 e.symm)]
  exact ih
  exact ih
section
variable {n : Nat} {ops : Array Oper} {J : Fr → World → Prop} {r : List Oper} {f : Fr} {w : World} {d : Nat} {T : TypeId} {pos : String} {af : Array Edge} {H : FH} {L L' : OL}
theorem Zq5 {x : Operand} {v : Value} {vals : List Value} {i b cp : Nat} (hv : v = .slice (some ⟨b, 0, none⟩) vals.length cp) {C0 : OL} (ho : W0 Zn4 22 H v vals C0) (hS : St H w L') (hin : ∀ x, x ∈ C0 → x ∈ L') (hx : ev f x = vQ b (i * 1)) (hi : i < vals.length) (hn : Nat.blt d n = true)
 (K : X7 prog n ops J r (upd f d (vals.getD i undef)) w) : X7 prog n ops J (⟨some d, .load 22 x, T, pos, af, none⟩ :: r) f w := by
 subst hv
 rcases ho with ⟨h, _⟩ | ⟨b', c', cs, hv, h1, h2, h3, rfl, h5⟩
 cases h
 cases hv
 obtain ⟨ecs, ⟨rfl, _⟩, hj⟩ := h5 i _ (getElem?_eq_getElem hi)
 have := hj 0 (show 0 < 1 by decide)
 rw [show Zn4.size = 1 from U, Nat.add_zero] at this
 exact Y1 (vals.getD i undef) Q9 hx (hS.own _ (hin _ (mem_singleton.2 U))) (by rw [this, P2 hi]; rfl) hn K
theorem Yw0 {x : Operand} {v : Value} {row : List Int} {i : Int} {b o cp : Nat} (hv : v = .slice (some ⟨b, o, none⟩) row.length cp) (hr : Rb H L' v row) {G : FH} (hs : Sub H G) (hS : St G w L') (hx : ev f x = vQ b (o + i.toNat * 1)) (h0 : 0 ≤ i) (hi : i < row.length) (hn : Nat.blt d n = true)
 (K : X7 prog n ops J r (upd f d (vI (rd row i))) w) : X7 prog n ops J (⟨some d, .load 2 x, T, pos, af, none⟩ :: r) f w := by
 obtain ⟨b', o', c', hv', hcell⟩ := hr.at h0 hi
 rw [hv] at hv'; cases hv'
 obtain ⟨cs, E, z, hw, hc⟩ := hcell G w hs hS
 exact Y1 (vI (rd row i)) ty2 hx hw hc hn K
end
def Zi6 (K : Nat) (a0 : MpT) (a1 : ((List Int) × (List MpT))) : Option Bool := ((Zo8 K a0).bind fun r5 => ((Zb7 K (a1.1, a1.2) r5).bind fun a6 => some (decide (0 < (a6.length : Int)))))
theorem Yr0 {a0 : MpT} {a1 : ((List Int) × (List MpT))} {r : Bool} (q0 : Zi6 K a0 a1 = some r) (b4 : Y3 yT H s0 a0) (b5 : Zt4 (Yd6 (X3 (Y4 .i64)) (X3 (X3 yT))) H s1 a1) (hS : St H w L) :
 Calls prog 124 #[vA [s0], s1] w (T4 (fun v G => R.bool.p G v r) H L) := by
 obtain ⟨_, _, _, _, _, rfl, a5, ⟨_, _, rfl, ⟨_, rfl, a3⟩, ⟨_, rfl, a4⟩⟩, a9⟩ := b5
 have Z4 := Sub.refl H
 refine X0 func124 U ntmps124 U ?_
 unfold Zi6 at q0
 refine Z1 (Z0 (T8 (v := vA [s0]) [s0].toArray U U hS U (fun _ _ hS => Z5 (vB false) U U (Z2 (Z1 (Z0 (X5 U7 U (hS.get mL) U U ?_)))))))
 obtain ⟨_, b6, q0⟩ := bSm q0
 refine U9 call110 (S4 U) U (Zx6 b6 b4 hS) ?_
 rintro _ _ ⟨_, _, _, rfl, a7, hS, b7⟩
 refine ⟨_, U, ?_⟩
 have Z4 := Z4.trans a7
 have a3 := a3.mono a7
 have a4 := a4.mono a7
 have a5 := a7.1 _ _ a5
 obtain ⟨_, a8, hS, b0⟩ := b7.freeze hS
 have Z4 := Z4.trans a8
 have a3 := a3.mono a8
 have a4 := a4.mono a8
 have a5 := a8.1 _ _ a5
 obtain ⟨a6, b1, q0⟩ := bSm q0
 refine U9 call116 (W8 U U) U (Yf2 b1 ⟨_, _, _, _, _, U, a5, ⟨_, _, U, ⟨_, U, a3⟩, ⟨_, U, a4⟩⟩, a9⟩ b0 hS) ?_
 rintro _ _ ⟨_, _, _, rfl, b2, hS, b3⟩
 refine ⟨_, U, ?_⟩
 have Z4 := Z4.trans b2
 refine Wr8 Zs5 U b3 hS U (A0 (k := .i64) (a := (a6.length : Int)) (b := 0) U U U (Z5 (vB (decide (0 < (a6.length : Int)))) U U (Z2 (Y9 (vs := [vB (decide (0 < (a6.length : Int)))]) func124 Ut ?_))))
 cases q0
 exact ⟨_, _, U, Z4, (St.dA (St.dA hS)), U⟩
end Go.Proofs.YtabofnehiclkiaaGreat
