/-
  The law 'FnExactPrimitiveOf' answers true for every input, and each argument reads behind the call as it read before.
  No condition: whatever the arguments are.
-/
import Derived.Test.YtabofnehiclkiaaGreatRows
import Derived.Test.YtabofnehiclkiaaGreatRP3
import Derived.Test.YtabofnehiclkiaaGreatRI
import Derived.WalkKit
import Derived.ProofKit
import Derived.OpenShut
import Derived.WideKeyArgs
namespace Go.Proofs.YtabofnehiclkiaaGreat
open Go Go.Proofs.Tryz Go.ChangeShapes Go.WideShapes Go.ChangeAt Go.RowKit
set_option linter.unusedVariables false
set_option linter.unusedSimpArgs false

theorem dg_own : ownKnob prog.godebug = none := by kernel_rfl
theorem dg_laid : laidOutB prog = true := by kernel_rfl

section
variable {H : Type} {enc : TypeId × Value → H} {W : World}
theorem dg_c2 : prog.cellsOf 2 = 1 := by kernel_rfl
theorem dg_c5 : prog.cellsOf 5 = 1 := by kernel_rfl
theorem dg_c71 : prog.cellsOf 71 = 8 := by kernel_rfl
theorem dg_c199 : prog.cellsOf 199 = 9 := by kernel_rfl
theorem dg_c38 : prog.cellsOf 38 = 1 := by kernel_rfl
theorem dg_c40 : prog.cellsOf 40 = 1 := by kernel_rfl
theorem dg_c22 : prog.cellsOf 22 = 1 := by kernel_rfl
theorem dg_c23 : prog.cellsOf 23 = 1 := by kernel_rfl
theorem dg_c25 : prog.cellsOf 25 = 2 := by kernel_rfl
theorem dg_opens_ints : Ya3 enc W (X3 (Y4 .i64)) 22 (fun _ => True) := fun fuel cs x h =>
  let ⟨y, h1, _⟩ := Yq7 (τ := Y4 .i64) underlying22 dg_c2 (by decide) (Xp5 underlying2) fuel cs x h; ⟨y, h1, trivial⟩
theorem dg_opens_term : Ya3 enc W yT 199 (fun t => (∀ i, 0 ≤ t.1 i ∧ t.1 i ≤ 255) ∧ (Lit.int .i64 t.2).wf = true) :=
  Xl7 (τ := Q5 .u8) (σ := Y4 .i64) underlying199 rfl (by rw [show (8 : Nat) = prog.cellsOf 71 from dg_c71.symm]) (by rw [dg_c199, dg_c71, dg_c2]) (Wk5 underlying71 underlying5 dg_c5 dg_c71) (Xp5 underlying2)
theorem dg_opens_form : Ya3 enc W (X3 yT) 40 (fun f => Zl5 f) := fun fuel cs x h =>
  let ⟨y, h1, h2⟩ := Wn7 (τ := X3 yT) (ga := fun f => ∀ t, t ∈ f → (∀ i, 0 ≤ t.1 i ∧ t.1 i ≤ 255) ∧ (Lit.int .i64 t.2).wf = true) underlying40 rfl (by rw [dg_c40, dg_c38]) (Yq7 (τ := yT) underlying38 dg_c199 (by decide) dg_opens_term) fuel cs x h
  ⟨y, h1, fun t ht => (h2 t ht).1⟩
theorem dg_opens_alg : Ya3 enc W (Yd6 (X3 (Y4 .i64)) (X3 (X3 yT))) 25 (fun a => True ∧ ∀ f, f ∈ a.2 → Zl5 f) :=
  Xl7 (τ := X3 (Y4 .i64)) (σ := X3 (X3 yT)) underlying25 rfl (by rw [show (1 : Nat) = prog.cellsOf 22 from dg_c22.symm]) (by rw [dg_c25, dg_c22, dg_c23]) dg_opens_ints (Yq7 (τ := X3 yT) underlying23 dg_c40 (by decide) dg_opens_form)
end
theorem dg_walk (W : World) (vd vi : Value) (a : F6) (vf : Value) (f : MpT) (hd : Y3 (Y4 .i64) (FH.all W) vd a.1) (hi : Y3 (X3 yT) (FH.all W) vi a.2) (hb : ∀ f, f ∈ a.2 → Zl5 f) (hff : Y3 yT (FH.all W) vf f) (hbf : Zl5 f) :
    Calls prog 9 #[Value.agg ([vd] ++ [vi]).toArray, Value.agg ([vf]).toArray] W fun e w' => e = .returned (.bool true) ∧ w'.os = W.os ∧ w'.output = W.output ∧ ∀ b, b < W.heap.size → w'.heap[b]? = W.heap[b]? := by
  have h3 : ∀ f, f ∈ a.2 → f.length ≤ 9223372036854775807 := by
    intro f hf
    obtain ⟨ad, c, _, h⟩ := hi
    rcases h with h | ⟨b, o, cs, E, _, _, h⟩
    · rw [h] at hf; cases hf
    · obtain ⟨j, hj, rfl⟩ := List.getElem_of_mem hf
      obtain ⟨ecs, ⟨u, _, hu⟩, _⟩ := h j _ (List.getElem?_eq_getElem hj)
      exact hu.bound
  have hg := Ww7 (K := 1099511627776) (f := f) (Nat.le_refl _) hd.bound hi.bound h3 hb hff.bound hbf
  have hc := Yf7 hg hd hi hff (fun _ => rfl) (fun b hb' => by
    have hb'' : b < W.heap.size := hb'
    show W.heap[b]? ≠ none
    rw [Array.getElem?_eq_getElem hb'']; simp) (St.all W)
  refine hc.mono fun e w' h => ?_
  obtain ⟨v, G, rfl, hs, hS, hv⟩ := h
  obtain ⟨_, h2, h3, _⟩ := hS.rest _ (hs.2.2.trans rfl)
  refine ⟨congrArg Ending.returned hv, h2, h3, fun b hb' => ?_⟩
  have hl : W.heap[b]? = some W.heap[b] := Array.getElem?_eq_getElem hb'
  rw [hl]
  exact hS.froz _ _ (hs.1 _ _ hl)
theorem dg_kept {W w' : World} (may : MemPlace → Prop) (h1 : w'.os = W.os) (h2 : w'.output = W.output) (h : ∀ b, b < W.heap.size → w'.heap[b]? = W.heap[b]?) : W.keptBut w' may := by
  refine ⟨h1, h2, fun i hi => ?_⟩
  rw [h i hi]
  exact (World.keptBut_refl W may).2.2 i hi
set_option maxRecDepth 100000 in
theorem dg_contract (H : Type) (enc : TypeId × Value → H) (W : World) (base : Nat) (args : Array Value) (ds gs : List (DataW H)) (before : List MemPlace)
    (hval : ∀ (j : Nat) t v, Tryz.f9.params[j]? = some t → args[j]? = some v → Value.okWide prog W .any base t v)
    (hW : DataW.Whole enc prog Tryz.f9.params.toList Rows.fnExactPrimitiveOfSpec.vars false W args.toList ds gs before) :
    Calls prog 9 args W fun e W' => ∃ v, e = .returned v ∧ Rows.fnExactPrimitiveOfSpec.post enc prog Tryz.f9 false true false false W args v W' := by
  have hW' := hW
  obtain ⟨p, q, hA0, hV, rfl, hfz, hnd⟩ := hW
  have hA : DataW.TrodAll enc prog W 0 (fun _ => true) true Tryz.f9.params.toList args.toList ds p := hA0
  rw [Tryz.params9] at hA hval
  obtain ⟨v0, v2, d0, d2, p0, p2, rfl, rfl, rfl, h0, h2⟩ := trodAll_two hA
  obtain ⟨rfl, rfl⟩ := trodVars_none hV
  obtain ⟨csf, rfl, hcsf⟩ := okWide_struct underlying40 (hval 1 40 v2 rfl rfl)
  obtain ⟨cs, rfl, hcs⟩ := okWide_struct underlying25 (hval 0 25 v0 rfl rfl)
  obtain ⟨fuel, hf⟩ := h0
  have h0 : DataW.Trod enc prog W 0 (fun _ => true) true 25 (.agg cs) d0 p0 := ⟨fuel, hf⟩
  obtain ⟨a, ⟨c1, dg_c2, hc, ⟨vd, rfl, hrd⟩, ⟨vi, rfl, hri⟩⟩, _, hby⟩ := dg_opens_alg fuel _ _ hf
  obtain ⟨fuelf, hff⟩ := h2
  have h2 : DataW.Trod enc prog W 0 (fun _ => true) true 40 (.agg csf) d2 p2 := ⟨fuelf, hff⟩
  obtain ⟨f, ⟨vf, hcf, hrf⟩, hbf⟩ := dg_opens_form fuelf _ _ hff
  have hcsf2 : Value.agg csf = Value.agg ([vf]).toArray := by
    have hc : csf.toList = [vf] := hcf
    rw [← hc]
  have hcs2 : Value.agg cs = Value.agg ([vd] ++ [vi]).toArray := by
    have hc : cs.toList = [vd] ++ [vi] := hc
    rw [← hc]
  rw [hcs2, hcsf2] at hW' ⊢
  rw [hcs2] at h0
  rw [hcsf2] at h2
  clear hA0 hA
  simp only [List.append_nil, List.nil_append] at hW'
  refine (dg_walk W vd vi a vf f hrd hri hby hrf hbf).mono fun e W' ⟨he, hos, hout, hh⟩ => ?_
  subst he
  have hlt := hW'.lt
  refine ⟨_, rfl, _, _, _, [], p0 ++ p2, [], hW', trodAll_cons_mk (shut_bool underlying4 _) trodAll_mk0, ?_, rfl, dg_kept _ hos hout hh, fun h => by cases h⟩
  have hA0 : DataW.Trod enc prog W' 0 (fun b => decide (b < W.heap.size)) true 25 (.agg ([vd] ++ [vi]).toArray) d0 p0 :=
    WideElems.Trod_stays dg_laid (by kernel_rfl) (of_decide_eq_true (by kernel_rfl)) h0 (fun x hx => by
      have hx' := hlt x (List.mem_append_left _ hx)
      cases x with
      | cell b off => show W'.cell? ⟨b, off, none⟩ = W.cell? ⟨b, off, none⟩; simp only [World.cell?]; rw [hh b hx']
      | map b => exact hh b hx') (fun x hx => by simpa using hlt x (List.mem_append_left _ hx))
  have hF0 : DataW.Trod enc prog W' 0 (fun b => decide (b < W.heap.size)) true 40 (.agg ([vf]).toArray) d2 p2 :=
    WideElems.Trod_stays dg_laid (by kernel_rfl) (of_decide_eq_true (by kernel_rfl)) h2 (fun x hx => by
      have hx' := hlt x (List.mem_append_right _ hx)
      cases x with
      | cell b off => show W'.cell? ⟨b, off, none⟩ = W.cell? ⟨b, off, none⟩; simp only [World.cell?]; rw [hh b hx']
      | map b => exact hh b hx') (fun x hx => by simpa using hlt x (List.mem_append_right _ hx))
  have := trodAll_mk2 hA0 hF0
  exact this

set_option maxRecDepth 100000 in
theorem dg_lifted (os : Os) (started : os.Started) (H : Type) (enc : TypeId × Value → H) :
    ReturnsInHanded {} Tryz.checked os 9 .any (Rows.fnExactPrimitiveOfSpec.pre6 enc prog Tryz.f9 Rows.fnExactPrimitiveOfRow.domain false) (Rows.fnExactPrimitiveOfSpec.post enc prog Tryz.f9 false true false false) := by
  refine returnsInHanded_of_change (C := Tryz.checked) dg_own started (by kernel_rfl) func9
    (ChangeSpec.witness6 (enc := enc) (C := Tryz.checked) false ⟨#[], #[.agg #[.slice none 0 0, .slice none 0 0], .agg #[.slice none 0 0]], []⟩ 8 (by as_aux_lemma => kernel_rfl) (by as_aux_lemma => kernel_rfl) (by as_aux_lemma => kernel_rfl) (by as_aux_lemma => kernel_rfl)) ?_
  intro W base args ds gs before hval hW _ _
  exact dg_contract H enc W base args ds gs before hval hW

end Go.Proofs.YtabofnehiclkiaaGreat
