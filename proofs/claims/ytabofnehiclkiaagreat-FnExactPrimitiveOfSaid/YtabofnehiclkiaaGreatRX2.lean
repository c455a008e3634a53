/- Walk, rules and plain laws. -/
import Derived.Test.YtabofnehiclkiaaGreatRX
namespace Go.Proofs.YtabofnehiclkiaaGreat
open Go Go.Proofs.Tryz IntKind IntWalk List
set_option linter.all false
set_option maxRecDepth 100000
set_option maxHeartbeats 8000000
theorem Wx1 (v : Value) : (Zn3 v).Nodup := by rw [← Xv5]; exact Yh1 v
theorem Xd1 {H0 Hc G : FH} {w : World} {L : OL} {v : Value} {xs : Zk1} {k : Int} (hA : Y3 yT (Hc.new H0) v xs) (hc : Sub Hc G) (hb : xs.length ≤ 1000000000000 ∧ 0 ≤ k ∧ k ≤ 1000000000000000) (hL : ∀ b, b < G.lim → H0 b ≠ none) (hS : St G w L) :
 Calls prog 29 #[.agg [v].toArray, vI k] w (fun e w' => ∃ G', e = .returned (vI (k + 9 * (xs.length : Int))) ∧ St G' w' L ∧ Y3 yT G' v (mkT k xs.length) ∧
  ∀ A : FH, Sub A G → (∀ b, A.memo b = none) → (∀ b, A b ≠ none → H0 b ≠ none ∨ Hc b = none) → Sub A G') := by
 obtain ⟨hb, hk⟩ := hb
 have hz0 : ∀ b o, (Hc.new H0) b = some o → nz o := fun b o hb' => by
  obtain ⟨h1, h2, _⟩ := A9.1 hb'
  refine hS.nofz b o (hc.1 _ _ h1) ?_
  rcases Nat.lt_or_ge b G.lim with h | h
  exact absurd h2 (hL b h)
  exact h
 obtain ⟨C, hw, hf, hm⟩ := Y3.win (τ := yT) (s := 9) U (by decide) hz0 hA
 have hS1 := hS.unfreeze C (fun z hz => hc.1 _ _ (A9.1 (hm z hz)).1) (by rw [hf]; exact Wx1 v)
 have hkeep : ∀ A : FH, Sub A G → (∀ b, A.memo b = none) → (∀ b, A b ≠ none → H0 b ≠ none ∨ Hc b = none) → Sub A (G.minus (C.map Prod.fst)) := fun A hA hM hd => by
  refine Xp2 hA hM (fun b hb' => ?_)
  obtain ⟨z, hz, rfl⟩ := mem_map.1 hb'
  obtain ⟨h1, h2, _⟩ := A9.1 (hm z hz)
  cases hq : A z.1 with
  | none => rfl
  | some o =>
   rcases hd z.1 (by rw [hq]; simp) with h | h
   exact absurd h2 h
   rw [h] at h1; cases h1
 have hone : v.oneCell' = true := hA.isOne
 refine X0 func29 U ntmps29 U (Z1 (Z0 (T8 (v := Value.agg [v].toArray) [v].toArray U U hS1 U (fun bx w2 hS1 => Z5 (vI 0) U U (Z2 (Z1 (Z0 (Y2 U8 U U (Y1 v P1 U (hS1.get mL) U U (Z3 (vI k) U U ?_))))))))))
 have hS2 := hS1.perm (R5 (A1 := C)).symm
 refine U9 call95 (W8 U U) U (Yy4 hw hb hk hS2) ?_
 rintro e w3 ⟨G1, rfl, sb1, hS3, hd1⟩
 refine ⟨_, U, ?_⟩
 refine Z5 (vI (k + 9 * (xs.length : Int))) U U (Z2 (Z1 (Z0 (Z3 (vI (k + 9 * (xs.length : Int))) U U (Z5 (vI (k + 9 * (xs.length : Int))) U U (Z2 (Y9 (vs := [vI (k + 9 * (xs.length : Int))]) func29 Ut ?_)))))))
 exact ⟨G1, U, St.dA (A := [(bx, .cells [v].toArray 45)]) hS3, hd1, fun A h1 h2 h3 => (hkeep A h1 h2 h3).trans sb1⟩
end Go.Proofs.YtabofnehiclkiaaGreat
