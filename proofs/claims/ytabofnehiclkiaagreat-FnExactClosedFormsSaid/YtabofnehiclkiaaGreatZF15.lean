/- Walks of functions: each computes its pure function, if that gives a value. -/
import Derived.Test.YtabofnehiclkiaaGreatZF14
namespace Go.Proofs.YtabofnehiclkiaaGreat
open Go Go.Proofs.Tryz
set_option linter.unusedSimpArgs false
set_option linter.unusedVariables false
set_option maxRecDepth 100000
set_option maxHeartbeats 8000000
variable {K : Nat} {H : FH} {w : World} {L : OL} {s0 s1 s2 s3 s4 s5 s6 : Value}
def Ze9 (q : Int) (row : List Int) : Nat → List Int
 | 0 => row
 | k + 1 => (Ze9 q row k).set k ((IntKind.i64.wrap (rd (Ze9 q row k) (k : Int) * q)).tmod 10007)
theorem Yj8 (q : Int) (row : List Int) : ∀ k, (Ze9 q row k).length = row.length
 | 0 => rfl
 | k + 1 => by rw [Ze9, List.length_set, Yj8 q row k]
def Yp8 (d : Nat) (c : Int) (R : List (List Int)) (k : Nat) : List (List Int) :=
 if k ≠ d ∧ rd (R.getD k []) c ≠ 0 then R.set k (tkN (R.getD k []) (R.getD d []) (rd (R.getD k []) c) (R.getD d []).length) else R
def elmN (d : Nat) (c : Int) (R : List (List Int)) : Nat → List (List Int)
 | 0 => R
 | k + 1 => Yp8 d c (elmN d c R k) k
def Wf7 (K : Nat) (R : List (List Int)) (d : Nat) (c : Int) : Option (List (List Int) × Nat) :=
 if fi c (R.drop d) 0 < 0 then some (R, d) else
  (Zr9 K (rd ((swp R d (d + (fi c (R.drop d) 0).toNat) []).getD d []) c)).bind fun q =>
   some (elmN d c ((swp R d (d + (fi c (R.drop d) 0).toNat) []).set d (Ze9 q ((swp R d (d + (fi c (R.drop d) 0).toNat) []).getD d []) ((swp R d (d + (fi c (R.drop d) 0).toNat) []).getD d []).length)) R.length, d + 1)
def Ym4 (K n : Nat) : Nat → List (List Int) → Nat → Option (List (List Int))
 | 0, R, d => some (R.take d)
 | j + 1, R, d => if d < R.length then (Wf7 K R d ((n - (j + 1) : Nat) : Int)).bind fun p => Ym4 K n j p.1 p.2 else some (R.take d)
def okR (R : List (List Int)) : Bool := decide (R.length ≤ 1099511627776 ∧ (R.getD 0 []).length ≤ 1099511627776 ∧ ∀ r, r ∈ R → r.length = (R.getD 0 []).length)
def Za8 (K : Nat) (R : List (List Int)) : Option (List (List Int)) := if okR R = true then Ym4 K (R.getD 0 []).length (R.getD 0 []).length R 0 else none
def Un (n : Nat) (R : List (List Int)) : Prop := ∀ i, i < R.length → (R.getD i []).length = n
theorem Un.set {n : Nat} {R : List (List Int)} (h : Un n R) {i : Nat} {r : List Int} (hi : i < R.length) (hr : r.length = n) : Un n (R.set i r) := fun j hj => by
 rw [List.length_set] at hj
 rw [Zf9 _ _ _ _ _ hi]
 split
 exact hr
 exact h j hj
theorem Un.swp {n : Nat} {R : List (List Int)} (h : Un n R) {i k : Nat} (hi : i < R.length) (hk : k < R.length) : Un n (swp R i k []) := fun j hj => by
 rw [Zu5] at hj
 rw [Yi3 _ _ _ _ hi hk]
 split
 exact h i hi
 split
 exact h k hk
 exact h j hj
theorem Un.elm {n : Nat} {R : List (List Int)} (h : Un n R) (d : Nat) (c : Int) {k : Nat} (hk : k < R.length) : Un n (Yp8 d c R k) := by
 unfold Yp8
 split
 exact h.set hk (by rw [Yi6]; exact h k hk)
 exact h
theorem Wq6 (d : Nat) (c : Int) (R : List (List Int)) (k : Nat) : (Yp8 d c R k).length = R.length := by unfold Yp8; split <;> simp
theorem Zw0 (d : Nat) (c : Int) (R : List (List Int)) : ∀ k, (elmN d c R k).length = R.length
 | 0 => rfl
 | k + 1 => by rw [elmN, Wq6, Zw0 d c R k]
theorem Un.elmN {n : Nat} {R : List (List Int)} (h : Un n R) (d : Nat) (c : Int) : ∀ k, k ≤ R.length → Un n (elmN d c R k)
 | 0, _ => h
 | k + 1, hk => (Un.elmN h d c k (by omega)).elm d c (by rw [Zw0]; omega)
theorem Wk2 (d : Nat) (c : Int) (R : List (List Int)) : ∀ k, k ≤ R.length → (YtabofnehiclkiaaGreat.elmN d c R k).getD d [] = R.getD d []
 | 0, _ => rfl
 | k + 1, hk => by
  have ih := Wk2 d c R k (by omega)
  rw [YtabofnehiclkiaaGreat.elmN]
  unfold Yp8
  split
  rename_i h
  rw [Zf9 _ _ _ _ _ (by rw [Zw0]; omega), if_neg (fun e => h.1 e.symm)]
  exact ih
  exact ih
section
variable {n : Nat} {ops : Array Oper} {J : Fr → World → Prop} {r : List Oper} {f : Fr} {w : World} {d : Nat} {T : TypeId} {pos : String} {af : Array Edge} {H : FH} {L L' : OL}
theorem Zp0 {x : Operand} {v : Value} {vals : List Value} {i : Nat} {b cp : Nat} (hv : v = .slice (some ⟨b, 0, none⟩) vals.length cp) {C0 : OL} (ho : X8 Zi6 22 H v vals C0) (hS : St H w L') (hin : ∀ x, x ∈ C0 → x ∈ L') (hx : ev f x = vQ b (i * 1)) (hi : i < vals.length) (hn : Nat.blt d n = true)
 (K : X6 prog n ops J r (upd f d (vals.getD i undef)) w) : X6 prog n ops J (⟨some d, .load 22 x, T, pos, af, none⟩ :: r) f w := by
 subst hv
 rcases ho with ⟨h, _⟩ | ⟨b', c', cs, hv, h1, h2, h3, rfl, h5⟩
 cases h
 cases hv
 obtain ⟨ecs, ⟨rfl, _⟩, hj⟩ := h5 i _ (List.getElem?_eq_getElem hi)
 have := hj 0 (show 0 < 1 by decide)
 rw [show Zi6.size = 1 from rfl, Nat.add_zero] at this
 exact Y0 (vals.getD i undef) P4 hx (hS.own _ (hin _ (List.mem_singleton.2 rfl))) (by rw [this, Q8 hi]; rfl) hn K
theorem Yr9 {x : Operand} {v : Value} {row : List Int} {i : Int} {b o cp : Nat} (hv : v = .slice (some ⟨b, o, none⟩) row.length cp) (hr : Rb H L' v row) {G : FH} (hs : Sub H G) (hS : St G w L') (hx : ev f x = vQ b (o + i.toNat * 1)) (h0 : 0 ≤ i) (hi : i < row.length) (hn : Nat.blt d n = true)
 (K : X6 prog n ops J r (upd f d (vI (rd row i))) w) : X6 prog n ops J (⟨some d, .load 2 x, T, pos, af, none⟩ :: r) f w := by
 obtain ⟨b', o', c', hv', hcell⟩ := hr.at h0 hi
 rw [hv] at hv'; cases hv'
 obtain ⟨cs, E, z, hw, hc⟩ := hcell G w hs hS
 exact Y0 (vI (rd row i)) ty2 hx hw hc hn K
end
def Zg6 (K : Nat) (a0 : MpT) (a1 : ((List Int) × (List MpT))) : Option Bool := ((Zr3 K a0).bind fun r5 => ((Za2 K (a1.1, a1.2) r5).bind fun a6 => some (decide (0 < (a6.length : Int)))))
theorem Ym9 {a0 : MpT} {a1 : ((List Int) × (List MpT))} {r : Bool} (q0 : Zg6 K a0 a1 = some r) (b4 : Y3 yT H s0 a0) (b5 : Zs8 (Yh5 (X2 (Y5 .i64)) (X2 (X2 yT))) H s1 a1) (hS : St H w L) :
 Calls prog 124 #[vA ([s0]), s1] w (U7 (fun v G => R.bool.p G v r) H L) := by
 obtain ⟨_, _, _, _, _, rfl, a5, ⟨_, _, rfl, ⟨_, rfl, a3⟩, ⟨_, rfl, a4⟩⟩, a9⟩ := b5
 have Z4 := Sub.refl H
 refine X0 func124 rfl ntmps124 rfl ?_
 unfold Zg6 at q0
 refine Z1 (Z0 ?_)
 refine T7 (v := vA ([s0])) ([s0]).toArray rfl rfl hS rfl ?_
 intro _ _ hS
 refine Z5 (vB false) rfl rfl (Z2 (Z1 (Z0 ?_)))
 refine W3 Q4 rfl (hS.get mL) rfl rfl ?_
 obtain ⟨_, b6, q0⟩ := bind_some q0
 refine U9 call110 (R3 rfl) rfl (Yl5 b6 b4 hS) ?_
 rintro _ _ ⟨_, _, _, rfl, a7, hS, b7⟩
 refine ⟨_, rfl, ?_⟩
 have Z4 := Z4.trans a7
 have a3 := a3.mono a7
 have a4 := a4.mono a7
 have a5 := a7.1 _ _ a5
 obtain ⟨_, a8, hS, b0⟩ := b7.freeze hS
 have Z4 := Z4.trans a8
 have a3 := a3.mono a8
 have a4 := a4.mono a8
 have a5 := a8.1 _ _ a5
 obtain ⟨a6, b1, q0⟩ := bind_some q0
 refine U9 call116 (V2 rfl rfl) rfl (Yc9 b1 ⟨_, _, _, _, _, rfl, a5, ⟨_, _, rfl, ⟨_, rfl, a3⟩, ⟨_, rfl, a4⟩⟩, a9⟩ b0 hS) ?_
 rintro _ _ ⟨_, _, _, rfl, b2, hS, b3⟩
 refine ⟨_, rfl, ?_⟩
 have Z4 := Z4.trans b2
 refine Wj5 Zq8 rfl b3 hS rfl ?_
 refine Za9 (k := .i64) (a := (a6.length : Int)) (b := 0) rfl rfl rfl (Z5 (vB (decide (0 < (a6.length : Int)))) rfl rfl (Z2 ?_))
 refine Y9 (vs := [vB (decide (0 < (a6.length : Int)))]) func124 ⟨rfl, trivial⟩ ?_
 obtain rfl := oi q0
 exact ⟨_, _, rfl, Z4, (St.dropA (St.dropA hS)), rfl⟩
end Go.Proofs.YtabofnehiclkiaaGreat
