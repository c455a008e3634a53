/- Walk, rules and plain laws. -/
import Derived.OpenShut
import Derived.Deep.Slices
import Derived.ChangeSame
import Derived.DataReads
import Derived.Test.YtabofnehiclkiaaGreatRF8
import Derived.Test.YtabofnehiclkiaaGreatRX
namespace Go.Proofs.YtabofnehiclkiaaGreat
open Go Go.Proofs.Tryz Go.ChangeShapes IntKind IntWalk List
set_option linter.all false
set_option maxRecDepth 100000
set_option maxHeartbeats 8000000
def Ya3 {H : Type} (enc : TypeId × Value → H) (W : World) {α : Type} (τ : Ty α) (t : TypeId) (good : α → Prop) : Prop :=
 ∀ (fuel : Nat) cs x, DataW.trod enc prog W 0 (fun _ => true) true fuel t cs = some x → ∃ y, τ.rel (FH.all W) cs y ∧ good y
section
variable {H : Type} {enc : TypeId × Value → H} {W : World}
theorem Vl5 {n : Int} (h : (Lit.int .u8 n).wf = true) : 0 ≤ n ∧ n ≤ 255 := by simpa [Lit.wf, IntKind.min, IntKind.max, IntKind.signed, IntKind.bits] using h
theorem Xp5 {t : TypeId} {k : IntKind} (ht : prog.underlying t = some (.int k)) : Ya3 enc W (Y4 k) t (fun n => (Lit.int k n).wf = true) := by
 intro fuel cs x h
 obtain ⟨n, rfl, _, hw⟩ := DataW.trod_int ht h
 exact ⟨n, U, hw⟩
theorem Wk5 {t e : TypeId} (ht : prog.underlying t = some (.array 8 e)) (he : prog.underlying e = some (.int .u8)) (hc : prog.cellsOf e = 1) (hct : prog.cellsOf t = 8) : Ya3 enc W (Q5 .u8) t (fun m => ∀ i, 0 ≤ m i ∧ m i ≤ 255) := by
 intro fuel cs x h
 obtain ⟨xs, m, _, _, hl, hxl, hx⟩ := DataW.trod_array ht h
 rw [hct] at hl
 have hcell : ∀ i : Nat, i < 8 → ∃ n, (cs.drop i).take 1 = [Value.int .u8 n] ∧ 0 ≤ n ∧ n ≤ 255 := by
  intro i hi
  have h1 := hx i hi
  rw [hc, Nat.mul_one, getElem?_eq_getElem (by omega)] at h1
  obtain ⟨n, h2, _, hw⟩ := DataW.trod_int he h1
  exact ⟨n, h2, Vl5 hw⟩
 match cs, hl with
 | [c0, c1, c2, c3, c4, c5, c6, c7], _ =>
  obtain ⟨n0, e0, w0⟩ := hcell 0 (by decide)
  obtain ⟨n1, e1, w1⟩ := hcell 1 (by decide)
  obtain ⟨n2, e2, w2⟩ := hcell 2 (by decide)
  obtain ⟨n3, e3, w3⟩ := hcell 3 (by decide)
  obtain ⟨n4, e4, w4⟩ := hcell 4 (by decide)
  obtain ⟨n5, e5, w5⟩ := hcell 5 (by decide)
  obtain ⟨n6, e6, w6⟩ := hcell 6 (by decide)
  obtain ⟨n7, e7, w7⟩ := hcell 7 (by decide)
  simp at e0 e1 e2 e3 e4 e5 e6 e7
  refine ⟨fun i => match i with | 0 => n0 | 1 => n1 | 2 => n2 | 3 => n3 | 4 => n4 | 5 => n5 | 6 => n6 | 7 => n7, ?_, fun i => ?_⟩
  show [c0, c1, c2, c3, c4, c5, c6, c7] = _
  rw [e0, e1, e2, e3, e4, e5, e6, e7]; rfl
  match i with
  | 0 => exact w0
  | 1 => exact w1
  | 2 => exact w2
  | 3 => exact w3
  | 4 => exact w4
  | 5 => exact w5
  | 6 => exact w6
  | 7 => exact w7
theorem Xl7 {α β : Type} {τ : Ty α} {σ : Ty β} {t : TypeId} {f0 f1 : Field} {ga : α → Prop} {gb : β → Prop} (ht : prog.underlying t = some (.struct #[f0, f1])) (h0 : f0.offset = 0) (h1 : f1.offset = prog.cellsOf f0.type)
 (hc : prog.cellsOf t = prog.cellsOf f0.type + prog.cellsOf f1.type) (ha : Ya3 enc W τ f0.type ga) (hb : Ya3 enc W σ f1.type gb) : Ya3 enc W (Yd6 τ σ) t (fun p => ga p.1 ∧ gb p.2) := by
 intro fuel cs x h
 obtain ⟨y0, y1, n, _, hl, e0, e1⟩ := trod_struct2 ht h
 rw [h0, drop_zero] at e0
 rw [h1] at e1
 obtain ⟨a, hra, hga⟩ := ha _ _ _ e0
 obtain ⟨b, hrb, hgb⟩ := hb _ _ _ e1
 refine ⟨(a, b), ⟨_, _, ?_, hra, hrb⟩, hga, hgb⟩
 rw [take_of_length_le (l := cs.drop _) (by rw [length_drop]; omega), take_append_drop]
theorem Wn7 {α : Type} {τ : Ty α} {t : TypeId} {f0 : Field} {ga : α → Prop} (ht : prog.underlying t = some (.struct #[f0])) (h0 : f0.offset = 0) (hc : prog.cellsOf t = prog.cellsOf f0.type) (ha : Ya3 enc W τ f0.type ga) : Ya3 enc W τ t ga := by
 intro fuel cs x h
 obtain ⟨y0, n, _, hl, e0⟩ := trod_struct1 ht h
 rw [h0, drop_zero, take_of_length_le (by omega)] at e0
 exact ha _ _ _ e0
theorem Wt3 {a : Addr} (hs : a.spot = none) (n i : Nat) : (a.add n).add i = ⟨a.block, a.off + n + i, none⟩ := by
 unfold Addr.add
 obtain ⟨b, o, s⟩ := a
 simp only at hs
 subst hs
 by_cases hn : n = 0 <;> by_cases hi : i = 0 <;> simp [hn, hi, Nat.add_assoc]
theorem Yq7 {α : Type} {τ : Ty α} {t e : TypeId} {g : α → Prop} (ht : prog.underlying t = some (.slice e)) (hc : prog.cellsOf e = τ.size) (hpos : 0 < τ.size) (he : Ya3 enc W τ e g) : Ya3 enc W (X3 τ) t (fun xs => ∀ x, x ∈ xs → g x) := by
 intro fuel cs x h
 rcases Deep.open_slice ht h with ⟨rfl, _⟩ | ⟨a, len, cap, m, n, D, Pl, rfl, _, hlc, hcm, hm, _, hel⟩
 exact ⟨[], ⟨_, rfl, Y3.nil⟩, fun x hx => by cases hx⟩
 simp only [if_true] at hm
 subst hm
 rw [hc] at hel
 obtain ⟨ys, hyl, hy⟩ := Yp7 (P := fun i (y : α) => ∃ cs', W.cells? 0 (a.add (i * τ.size)) τ.size = some cs' ∧ τ.rel (FH.all W) cs' y ∧ g y) len (fun i hi => by
  obtain ⟨cs', h1, h2⟩ := hel i (by omega)
  obtain ⟨y, h3, h4⟩ := he _ _ _ h2
  exact ⟨y, cs', h1, h3, h4⟩)
 refine ⟨ys, ⟨_, U, some a, _, ⟨by rw [hyl], by rw [hyl]; simp only [maxLen] at hcm; omega⟩, ?_⟩, fun x hx => ?_⟩
 cases ys with
 | nil => exact .inl U
 | cons y0 ys0 =>
  refine .inr ?_
  obtain ⟨cs0, h0, _, _⟩ := hy 0 y0 U
  have hcell := (World.cells?_some h0).2.2 0 hpos
  rw [Nat.zero_mul] at hcell
  have e0 : (a.add 0).add 0 = a := by simp [Addr.add]
  rw [e0] at hcell
  have hlen0 := (World.cells?_some h0).2.1
  rw [getElem?_eq_getElem (by omega)] at hcell
  obtain ⟨b, o, s⟩ := a
  unfold World.cell? at hcell
  cases hb : W.heap[b]? with
  | none => simp [hb] at hcell
  | some ob =>
   cases ob with
   | cells c E z =>
    cases s with
    | some q => simp [hb] at hcell
    | none =>
     refine ⟨b, o, c, (E, z), U, hb, fun i y hiy => ?_⟩
     obtain ⟨cs', h1, h2, _⟩ := hy i y hiy
     refine ⟨cs', h2, fun j hj => ?_⟩
     have h3 := (World.cells?_some h1).2.2 j hj
     rw [Wt3 U] at h3
     rw [← h3]
     exact (Yg2 hb _).symm
   | _ => simp [hb] at hcell
 obtain ⟨i, hi, rfl⟩ := getElem_of_mem hx
 obtain ⟨_, _, _, h4⟩ := hy i _ (getElem?_eq_getElem hi)
 exact h4
end
end Go.Proofs.YtabofnehiclkiaaGreat
