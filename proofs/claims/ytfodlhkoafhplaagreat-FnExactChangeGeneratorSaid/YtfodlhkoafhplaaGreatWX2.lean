/- Walks of the functions that mark. -/
import Derived.Test.YtfodlhkoafhplaaGreatWX
import Derived.Test.YtfodlhkoafhplaaGreatWF13
namespace Go.Proofs.YtfodlhkoafhplaaGreat
open Go
set_option linter.unusedSimpArgs false
set_option linter.unusedVariables false
theorem Xy5 (v : Value) : (Zj2 v).Nodup := by rw [← Xf3]; exact Zj3 v
set_option maxRecDepth 100000 in
set_option maxHeartbeats 1000000 in
theorem Xl2 {H0 Hc G : FH} {w : World} {L : OL} {v : Value} {xs : Zi9} {k : Int} (hA : Y3 yT (Hc.new H0) v xs) (hc : Sub Hc G) (hb : xs.length ≤ 1000000000000 ∧ 0 ≤ k ∧ k ≤ 1000000000000000) (hL : ∀ b, b < G.lim → H0 b ≠ none) (hS : St G w L) :
 Calls Tryz.prog 32 #[.agg [v].toArray, vI k] w (fun e w' => ∃ G', e = .returned (vI (k + 9 * (xs.length : Int))) ∧ St G' w' L ∧ Y3 yT G' v (mkT k xs.length) ∧
  ∀ A : FH, Sub A G → (∀ b, A.memo b = none) → (∀ b, A b ≠ none → H0 b ≠ none ∨ Hc b = none) → Sub A G') := by
 obtain ⟨hb, hk⟩ := hb
 have hz0 : ∀ b o, (Hc.new H0) b = some o → nz o := fun b o hb' => by
  obtain ⟨h1, h2, _⟩ := B1.1 hb'
  refine hS.nofz b o (hc.1 _ _ h1) ?_
  rcases Nat.lt_or_ge b G.lim with h | h
  exact absurd h2 (hL b h)
  exact h
 obtain ⟨C, hw, hf, hm⟩ := Y3.win (τ := yT) (s := 9) rfl (by decide) hz0 hA
 have hS1 := hS.unfreeze C (fun z hz => hc.1 _ _ (B1.1 (hm z hz)).1) (by rw [hf]; exact Xy5 v)
 have hkeep : ∀ A : FH, Sub A G → (∀ b, A.memo b = none) → (∀ b, A b ≠ none → H0 b ≠ none ∨ Hc b = none) → Sub A (G.minus (C.map Prod.fst)) := fun A hA hM hd => by
  refine Xc3 hA hM (fun b hb' => ?_)
  obtain ⟨z, hz, rfl⟩ := List.mem_map.1 hb'
  obtain ⟨h1, h2, _⟩ := B1.1 (hm z hz)
  cases hq : A z.1 with
  | none => rfl
  | some o =>
   rcases hd z.1 (by rw [hq]; simp) with h | h
   exact absurd h2 h
   rw [h] at h1; cases h1
 have hone : v.oneCell' = true := hA.isOne
 refine X0 Tryz.func32 rfl Tryz.ntmps32 rfl ?_
 refine Z3 (Z1 ?_)
 refine T7 (v := Value.agg [v].toArray) [v].toArray rfl rfl hS1 rfl ?_
 intro bx w2 hS1
 refine Z6 (vI 0) rfl rfl ?_
 refine Z0 (Z3 (Z1 ?_))
 refine Y2 V6 rfl rfl ?_
 refine Y4 v R7 rfl (hS1.get mL) rfl rfl ?_
 refine Z4 (vI k) rfl rfl ?_
 have hS2 := hS1.perm (U4 (A1 := C)).symm
 refine Y8 Tryz.call111 (T0 rfl rfl) rfl (Yp4 hw hb hk hS2) ?_
 rintro e w3 ⟨G1, rfl, sb1, hS3, hd1⟩
 refine ⟨_, rfl, ?_⟩
 refine Z6 (vI (k + 9 * (xs.length : Int))) rfl rfl ?_
 refine Z0 (Z3 (Z1 ?_))
 refine Z4 (vI (k + 9 * (xs.length : Int))) rfl rfl ?_
 refine Z6 (vI (k + 9 * (xs.length : Int))) rfl rfl ?_
 refine Z0 ?_
 refine Y9 (vs := [vI (k + 9 * (xs.length : Int))]) Tryz.func32 ⟨rfl, trivial⟩ ?_
 exact ⟨G1, rfl, St.dropA (A := [(bx, .cells [v].toArray 47)]) hS3, hd1, fun A h1 h2 h3 => (hkeep A h1 h2 h3).trans sb1⟩
end Go.Proofs.YtfodlhkoafhplaaGreat
