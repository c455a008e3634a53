/- Plain laws on the pure functions. -/
import Derived.Test.YtfodlhkoafhplaaGreatSP2
import Derived.Test.YtfodlhkoafhplaaGreatSL
namespace Go.Proofs.YtfodlhkoafhplaaGreat
open Go
set_option linter.unusedSimpArgs false
set_option linter.unusedVariables false
section
variable {K : Nat}
/-! comparisons -/
theorem eqMono_refl (hK : 8 < K) (m : A8) : g_laws_eqMonomial K m m = some true := by
 unfold g_laws_eqMonomial
 rw [all_loop_ge (g := ()) (fun k i => g_laws_eqMonomial_l0 K m m k i) 8 (fun _ => true) false (fun k n hn => ?_) (fun k n hn => ?_) hK]
 rw [if_pos (by simp)]; rfl
 show g_laws_eqMonomial_l0 K m m (k + 1) n = _
 rw [g_laws_eqMonomial_l0, if_pos (by omega), if_pos rfl]; rfl
 show g_laws_eqMonomial_l0 K m m (k + 1) n = _
 rw [g_laws_eqMonomial_l0, if_neg (by omega)]
theorem eqTermS_refl (hK : 8 < K) {f : MpT} (hl : f.length < K) : g_laws_eqTermS K f f = some true := by
 unfold g_laws_eqTermS
 rw [if_pos rfl, all_loop_ge (g := ()) (fun k i => g_laws_eqTermS_l0 K f f k i) f.length (fun _ => true) false (fun k n hn => ?_) (fun k n hn => ?_) hl]
 rw [if_pos (by simp)]; rfl
 show g_laws_eqTermS_l0 K f f (k + 1) n = _
 have h : g_laws_eqTerm K ((rd f (n : Int)).1, (rd f (n : Int)).2) ((rd f (n : Int)).1, (rd f (n : Int)).2) = some true := by
  unfold g_laws_eqTerm
  rw [eqMono_refl hK]; simp
 rw [g_laws_eqTermS_l0, if_pos (by omega), if_pos (by omega), h]; rfl
 show g_laws_eqTermS_l0 K f f (k + 1) n = _
 rw [g_laws_eqTermS_l0, if_neg (by omega)]
theorem eqFormS_refl (hK : 8 < K) {fs : List MpT} (hl : fs.length < K) (hf : ∀ f, f ∈ fs → f.length < K) : g_laws_eqFormS K fs fs = some true := by
 unfold g_laws_eqFormS
 rw [if_pos rfl, all_loop_ge (g := ()) (fun k i => g_laws_eqFormS_l0 K fs fs k i) fs.length (fun _ => true) false (fun k n hn => ?_) (fun k n hn => ?_) hl]
 rw [if_pos (by simp)]; rfl
 show g_laws_eqFormS_l0 K fs fs (k + 1) n = _
 have h : g_laws_eqForm K (rd fs (n : Int)) (rd fs (n : Int)) = some true := by
  unfold g_laws_eqForm
  rw [eqTermS_refl hK (hf _ (rd_mem hn))]; rfl
 rw [g_laws_eqFormS_l0, if_pos (by omega), if_pos (by omega), h]; rfl
 show g_laws_eqFormS_l0 K fs fs (k + 1) n = _
 rw [g_laws_eqFormS_l0, if_neg (by omega)]
theorem eqInts_refl {xs : List Int} (hl : xs.length < K) : g_laws_eqInt64S K xs xs = some true := by
 unfold g_laws_eqInt64S
 rw [if_pos rfl, all_loop_ge (g := ()) (fun k i => g_laws_eqInt64S_l0 K xs xs k i) xs.length (fun _ => true) false (fun k n hn => ?_) (fun k n hn => ?_) hl]
 rw [if_pos (by simp)]; rfl
 show g_laws_eqInt64S_l0 K xs xs (k + 1) n = _
 rw [g_laws_eqInt64S_l0, if_pos (by omega), if_pos (by omega), if_pos rfl]; rfl
 show g_laws_eqInt64S_l0 K xs xs (k + 1) n = _
 rw [g_laws_eqInt64S_l0, if_neg (by omega)]
theorem eqAlg_refl (hK : 8 < K) {x : AlgT} (h1 : x.1.length < K) (h2 : x.2.length < K) (h3 : ∀ f, f ∈ x.2 → f.length < K) : g_laws_eqAlgebra K x x = some true := by
 unfold g_laws_eqAlgebra
 rw [eqInts_refl h1, Option.bind_some, if_pos rfl, eqFormS_refl hK h2 h3]; rfl
/-! copies -/
theorem toMono (hK : 8 < K) (m : A8) : g_laws_toMonomial K m = some m := by
 have key : ∀ (k n : Nat) (box : A8), n ≤ 8 → 8 < n + k → (∀ j : Fin 8, j.val < n → box j = m j) → g_laws_toMonomial_l0 K m k n box = some (.go m) := by
  intro k
  induction k with
  | zero => intro n box h1 h2; omega
  | succ k ih =>
   intro n box h1 h2 hb
   rw [g_laws_toMonomial_l0]
   by_cases hn : n < 8
   rw [if_pos (by omega)]
   refine ih (n + 1) _ (by omega) (by omega) (fun j hj => ?_)
   rw [upd_nat _ hn, idx_nat m hn]
   by_cases e : j.val = n
   rw [if_pos e]; congr 1; exact Fin.ext e.symm
   rw [if_neg e]; exact hb j (by omega)
   rw [if_neg (by omega)]
   congr 2
   funext j; exact hb j (by omega)
 have := key K 0 (fun _ => 0) (by omega) (by omega) (fun j hj => by omega)
 unfold g_laws_toMonomial
 replace this : g_laws_toMonomial_l0 K m K 0 (fun _ => 0) = _ := this
 rw [this]; rfl
theorem set_take {α : Type} [Inhabited α] {xs ys : List α} {j : Nat} (hj : j < xs.length) (hl : ys.length = xs.length) (h : ys.take j = xs.take j) : (ys.set j (rd xs (j : Int))).take (j + 1) = xs.take (j + 1) := by
 rw [take_rd (xs := ys.set j _) (by rw [List.length_set]; omega), take_rd hj]
 congr 1
 rw [List.take_set_of_le (Nat.le_refl j), h]
 rw [rd_nat (by rw [List.length_set]; omega)]
 simp
theorem toTermS (hK : 8 < K) {f : MpT} (hl : f.length < K) (hl2 : f.length ≤ 1099511627776) : g_laws_toTermS K f = some f := by
 have key : ∀ (k j : Nat) (out : MpT), f.length < j + k → j ≤ f.length → out.length = f.length → out.take j = f.take j → g_laws_toTermS_l0 K f k j out = some (.go f) := by
  intro k
  induction k with
  | zero => intro j out h1 h2; omega
  | succ k ih =>
   intro j out h1 h2 h3 h4
   rw [g_laws_toTermS_l0]
   by_cases hj : j < f.length
   have ht : g_laws_toTerm K ((rd f (j : Int)).1, (rd f (j : Int)).2) = some (rd f (j : Int)) := by
    unfold g_laws_toTerm
    rw [toMono hK]; rfl
   rw [if_pos (by omega), ht, Option.bind_some, if_pos (by omega), Int.toNat_natCast]
   exact ih (j + 1) _ (by omega) (by omega) (by rw [List.length_set]; exact h3) (set_take hj h3 h4)
   rw [if_neg (by omega)]
   rw [List.take_of_length_le (by omega), List.take_of_length_le (by omega)] at h4
   rw [h4]
 have := key K 0 (List.replicate f.length ((fun _ => 0), 0)) (by omega) (by omega) (by simp) (by simp)
 unfold g_laws_toTermS
 rw [if_pos (by omega), Int.toNat_natCast]
 replace this : g_laws_toTermS_l0 K f K 0 (List.replicate f.length ((fun _ => 0), 0)) = _ := this
 rw [this]; rfl
theorem toFormS (hK : 8 < K) {fs : List MpT} (hl : fs.length < K) (hl2 : fs.length ≤ 1099511627776) (hf : ∀ f, f ∈ fs → f.length < K ∧ f.length ≤ 1099511627776) : g_laws_toFormS K fs = some fs := by
 have key : ∀ (k j : Nat) (out : List MpT), fs.length < j + k → j ≤ fs.length → out.length = fs.length → out.take j = fs.take j → g_laws_toFormS_l0 K fs k j out = some (.go fs) := by
  intro k
  induction k with
  | zero => intro j out h1 h2; omega
  | succ k ih =>
   intro j out h1 h2 h3 h4
   rw [g_laws_toFormS_l0]
   by_cases hj : j < fs.length
   have hff := hf _ (rd_mem hj)
   have ht : g_laws_toForm K (rd fs (j : Int)) = some (rd fs (j : Int)) := by
    unfold g_laws_toForm
    rw [toTermS hK hff.1 hff.2]; rfl
   rw [if_pos (by omega), ht, Option.bind_some, if_pos (by omega), Int.toNat_natCast]
   exact ih (j + 1) _ (by omega) (by omega) (by rw [List.length_set]; exact h3) (set_take hj h3 h4)
   rw [if_neg (by omega)]
   rw [List.take_of_length_le (by omega), List.take_of_length_le (by omega)] at h4
   rw [h4]
 have := key K 0 (List.replicate fs.length []) (by omega) (by omega) (by simp) (by simp)
 unfold g_laws_toFormS
 rw [if_pos (by omega), Int.toNat_natCast]
 replace this : g_laws_toFormS_l0 K fs K 0 (List.replicate fs.length []) = _ := this
 rw [this]; rfl
theorem toInts {xs : List Int} (hl : xs.length < K) (hl2 : xs.length ≤ 1099511627776) : g_laws_toInt64S K xs = some xs := by
 have key : ∀ (k j : Nat) (out : List Int), xs.length < j + k → j ≤ xs.length → out.length = xs.length → out.take j = xs.take j → g_laws_toInt64S_l0 K xs k j out = some (.go xs) := by
  intro k
  induction k with
  | zero => intro j out h1 h2; omega
  | succ k ih =>
   intro j out h1 h2 h3 h4
   rw [g_laws_toInt64S_l0]
   by_cases hj : j < xs.length
   rw [if_pos (by omega), if_pos (by omega), Int.toNat_natCast]
   exact ih (j + 1) _ (by omega) (by omega) (by rw [List.length_set]; exact h3) (set_take hj h3 h4)
   rw [if_neg (by omega)]
   rw [List.take_of_length_le (by omega), List.take_of_length_le (by omega)] at h4
   rw [h4]
 have := key K 0 (List.replicate xs.length 0) (by omega) (by omega) (by simp) (by simp)
 unfold g_laws_toInt64S
 rw [if_pos (by omega), Int.toNat_natCast]
 replace this : g_laws_toInt64S_l0 K xs K 0 (List.replicate xs.length 0) = _ := this
 rw [this]; rfl
theorem toAlg {a : AlgT} (hi : Inp K a) : g_laws_toAlgebra K a = some a := by
 have h1 := hi.big; have h2 := hi.dl; have h3 := hi.il
 unfold g_laws_toAlgebra
 rw [toInts (by omega) (by omega), Option.bind_some, toFormS (by omega) (by omega) (by omega) (fun f hf => by have := hi.fl f hf; omega)]; rfl
/-! marks are there -/
theorem heldInts (k0 : Int) (m : Nat) (hK : m < K) (h0 : 0 ≤ k0 ∧ k0 + m ≤ 1000000000000000) : g_laws_heldInt64S K (mkI k0 m) k0 = some (k0 + m) := by
 have key : ∀ (k j : Nat), m < j + k → j ≤ m → g_laws_heldInt64S_l0 K (mkI k0 m) k (k0 + j) j = some (.go (k0 + m)) := by
  intro k
  induction k with
  | zero => intro j h1 h2; omega
  | succ k ih =>
   intro j h1 h2
   rw [g_laws_heldInt64S_l0, mkI_len]
   by_cases hj : j < m
   have e : rd (mkI k0 m) (j : Int) = k0 + j := rd_eq (by simp [mkI, hj])
   rw [if_pos (by omega), if_pos e, IntWalk.i64_in _ (by omega), Int.add_assoc]
   exact ih (j + 1) (by omega) (by omega)
   rw [if_neg (by omega), show j = m by omega]
 have := key K 0 (by omega) (by omega)
 unfold g_laws_heldInt64S
 replace this : g_laws_heldInt64S_l0 K (mkI k0 m) K (k0 + 0) 0 = _ := this
 rw [Int.add_zero] at this
 rw [this]; rfl
theorem heldTerms (k0 : Int) (m : Nat) (hK : m < K) (hK8 : 8 < K) (h0 : 0 ≤ k0 ∧ k0 + 9 * m ≤ 1000000000000000) : g_laws_heldTermS K (mkT k0 m) k0 = some (k0 + 9 * m) := by
 have e : ∀ j : Nat, j < m → rd (mkT k0 m) (j : Int) = ((fun t : Fin 8 => IntKind.u8.wrap (k0 + 9 * j + t.val)), k0 + 9 * j + 8) := fun j hj => rd_eq (by simp [mkT, hj])
 have inner : ∀ (j : Nat), j < m → ∀ (k t : Nat), 8 < t + k → t ≤ 8 → g_laws_heldTermS_l1 K (mkT k0 m) j k (k0 + 9 * j + t) t = some (.go (k0 + 9 * j + 8)) := by
  intro j hj k
  induction k with
  | zero => intro t h1 h2; omega
  | succ k ih =>
   intro t h1 h2
   rw [g_laws_heldTermS_l1, e j hj]
   by_cases ht : t < 8
   rw [if_pos (by omega), idx_nat _ ht, if_pos rfl, IntWalk.i64_in _ (by omega), Int.add_assoc]
   exact ih (t + 1) (by omega) (by omega)
   rw [if_neg (by omega), show t = 8 by omega]; rfl
 have key : ∀ (k j : Nat), m < j + k → j ≤ m → g_laws_heldTermS_l0 K (mkT k0 m) k (k0 + 9 * j) j = some (.go (k0 + 9 * m)) := by
  intro k
  induction k with
  | zero => intro j h1 h2; omega
  | succ k ih =>
   intro j h1 h2
   rw [g_laws_heldTermS_l0, mkT_len]
   by_cases hj : j < m
   have hin := inner j hj K 0 (by omega) (by omega)
   replace hin : g_laws_heldTermS_l1 K (mkT k0 m) j K (k0 + 9 * j + 0) 0 = _ := hin
   rw [Int.add_zero] at hin
   rw [if_pos (by omega), hin, Option.bind_some]
   show (if (rd (mkT k0 m) (j : Int)).2 = k0 + 9 * j + 8 then g_laws_heldTermS_l0 K (mkT k0 m) k (IntKind.i64.wrap (k0 + 9 * j + 8 + 1)) ((j : Int) + 1) else some (.ret (-1))) = _
   rw [e j hj, if_pos rfl, IntWalk.i64_in _ (by omega)]
   have := ih (j + 1) (by omega) (by omega)
   rw [show k0 + 9 * ((j + 1 : Nat) : Int) = k0 + 9 * j + 8 + 1 by omega] at this
   exact this
   rw [if_neg (by omega), show j = m by omega]
 have := key K 0 (by omega) (by omega)
 unfold g_laws_heldTermS
 replace this : g_laws_heldTermS_l0 K (mkT k0 m) K (k0 + 9 * 0) 0 = _ := this
 rw [Int.mul_zero, Int.add_zero] at this
 rw [this]; rfl
theorem heldForms (xs : List MpT) (k0 : Int) (hK8 : 8 < K) (hl : xs.length < K) (hf : ∀ f, f ∈ xs → f.length < K) (h0 : 0 ≤ k0 ∧ k0 + cntF xs ≤ 1000000000000000) : g_laws_heldFormS K (mkFs k0 xs) k0 = some (k0 + cntF xs) := by
 have key : ∀ (k j : Nat), xs.length < j + k → j ≤ xs.length → g_laws_heldFormS_l0 K (mkFs k0 xs) k (k0 + cntF (xs.take j)) j = some (.go (k0 + cntF xs)) := by
  intro k
  induction k with
  | zero => intro j h1 h2; omega
  | succ k ih =>
   intro j h1 h2
   rw [g_laws_heldFormS_l0, mkFs_len]
   by_cases hj : j < xs.length
   have hx : xs[j]? = some xs[j] := List.getElem?_eq_getElem hj
   have e := rd_eq (mkFs_get xs k0 j _ hx)
   have h3 := cntF_nn (xs.take j)
   have h4 := cntF_take xs (j + 1)
   have h5 := cntF_take1 xs j _ hx
   have h6 := hf _ (List.getElem_mem hj)
   rw [if_pos (by omega), e, heldTerms _ _ h6 hK8 (by omega), Option.bind_some, if_neg (by omega)]
   have := ih (j + 1) (by omega) (by omega)
   rw [h5, ← Int.add_assoc] at this
   exact this
   rw [if_neg (by omega), List.take_of_length_le (by omega)]
 have := key K 0 (by omega) (by omega)
 unfold g_laws_heldFormS
 replace this : g_laws_heldFormS_l0 K (mkFs k0 xs) K (k0 + 0) 0 = _ := this
 rw [Int.add_zero] at this
 rw [this]; rfl
theorem heldAlg {x : AlgT} (hK8 : 8 < K) (h1 : x.1.length < K) (h2 : x.2.length < K) (h3 : ∀ f, f ∈ x.2 → f.length < K) (hb : cntA x ≤ 1000000000000) : g_laws_heldAlgebra K (mkA x 1) 1 = some (1 + cntA x) := by
 have hn := cntF_nn x.2
 unfold cntA at hb ⊢
 unfold g_laws_heldAlgebra mkA
 rw [heldInts _ _ h1 (by omega), Option.bind_some, if_neg (by omega), heldForms _ _ hK8 h2 h3 (by omega), Option.bind_some, if_neg (by omega), Int.add_assoc]
/-! sizes -/
theorem szForm_eq {f : MpT} {l : Int} (hb : f.length ≤ 9223372036854775807) (hl : 0 ≤ l ∧ l ≤ 1048576) : g_laws_szForm K f l = some (if l < f.length then -1 else l - f.length) := by
 unfold g_laws_szForm g_laws_szTermS
 rw [IntWalk.i64_in _ (by omega)]
 by_cases h : l < f.length
 rw [if_pos (by omega), if_pos h]; rfl
 rw [if_neg (by omega), if_neg h, Option.bind_some, if_neg (by omega)]
theorem sz_loop {fs : List MpT} (hb : ∀ f, f ∈ fs → f.length ≤ 9223372036854775807) : ∀ (k j : Nat) (l : Int), fs.length < j + k → j ≤ fs.length → 0 ≤ l ∧ l ≤ 1048576 →
 ∃ e r, g_laws_szFormS_l0 K fs k l j = some e ∧ Ex.elim (fun r => some r) (fun s => some s) e = some r ∧ (r < 0 ∨ (0 ≤ r ∧ cntF (fs.drop j) ≤ 9 * (l - r) ∧ ∀ f, f ∈ fs.drop j → (f.length : Int) ≤ l)) := by
 intro k
 induction k with
 | zero => intro j l h1 h2; omega
 | succ k ih =>
  intro j l h1 h2 hl
  rw [g_laws_szFormS_l0]
  by_cases hj : j < fs.length
  rw [if_pos (by omega), szForm_eq (hb _ (rd_mem hj)) hl, Option.bind_some]
  by_cases h : l < (rd fs (j : Int)).length
  rw [if_pos h, if_pos (by decide)]; exact ⟨_, _, rfl, rfl, .inl (by decide)⟩
  rw [if_neg h, if_neg (by omega)]
  obtain ⟨e, r, h3, h4, h5⟩ := ih (j + 1) (l - (rd fs (j : Int)).length) (by omega) (by omega) (by omega)
  refine ⟨e, r, h3, h4, ?_⟩
  rcases h5 with h5 | ⟨h5, h6, h7⟩
  exact .inl h5
  rw [show fs.drop j = rd fs (j : Int) :: fs.drop (j + 1) by rw [rd_nat hj]; exact List.drop_eq_getElem_cons hj]
  refine .inr ⟨h5, by rw [cntF]; omega, fun f hf => ?_⟩
  rcases List.mem_cons.1 hf with rfl | hf
  omega
  have := h7 f hf; omega
  rw [if_neg (by omega), List.drop_eq_nil_of_le (by omega)]
  exact ⟨_, _, rfl, rfl, .inr ⟨hl.1, by rw [cntF]; omega, by simp⟩⟩
theorem sz_alg {a : AlgT} (hK : 1073741824 ≤ K) (h1 : a.1.length ≤ 9223372036854775807) (h2 : a.2.length ≤ 9223372036854775807) (h3 : ∀ f, f ∈ a.2 → f.length ≤ 9223372036854775807) :
 ∃ r, g_laws_szAlgebra K a 1048576 = some r ∧ (r < 0 ∨ (a.1.length ≤ 1048576 ∧ a.2.length ≤ 1048576 ∧ (∀ f, f ∈ a.2 → f.length ≤ 1048576) ∧ cntF a.2 ≤ 9437184)) := by
 unfold g_laws_szAlgebra g_laws_szInt64S g_laws_szFormS
 rw [IntWalk.i64_in (1048576 - (a.1.length : Int)) (by omega)]
 by_cases hd : a.1.length ≤ 1048576
 case neg => rw [if_pos (by omega)]; exact ⟨-1, rfl, .inl (by decide)⟩
 rw [if_neg (by omega), Option.bind_some, if_neg (by omega), IntWalk.i64_in _ (by omega)]
 by_cases hi : (a.1.length : Int) + a.2.length ≤ 1048576
 case neg => rw [if_pos (by omega)]; exact ⟨-1, rfl, .inl (by decide)⟩
 rw [if_neg (by omega)]
 obtain ⟨e, r, h4, h5, h6⟩ := sz_loop (K := K) h3 K 0 (1048576 - (a.1.length : Int) - (a.2.length : Int)) (by omega) (by omega) (by omega)
 replace h4 : g_laws_szFormS_l0 K a.2 K (1048576 - (a.1.length : Int) - (a.2.length : Int)) 0 = some e := h4
 rw [h4, Option.bind_some, h5, Option.bind_some]
 rcases h6 with h6 | ⟨h6, h7, h8⟩
 rw [if_pos h6]; exact ⟨-1, rfl, .inl (by decide)⟩
 rw [if_neg (by omega)]
 rw [List.drop_zero] at h7 h8
 exact ⟨r, rfl, .inr ⟨hd, by omega, fun f hf => by have := h8 f hf; omega, by omega⟩⟩
end
theorem cntF_le : ∀ {fs : List MpT}, (∀ f, f ∈ fs → f.length ≤ 400) → cntF fs ≤ 3600 * fs.length
 | [], _ => by simp [cntF]
 | f :: fs, h => by
  have h1 := h f (List.mem_cons_self ..)
  have h2 := cntF_le (fs := fs) (fun g hg => h g (List.mem_cons_of_mem _ hg))
  rw [cntF, List.length_cons]; omega
theorem law_true {K : Nat} {a : AlgT} {i c : Int} (hK : 1099511627776 ≤ K) (h1 : a.1.length ≤ 9223372036854775807) (h2 : a.2.length ≤ 9223372036854775807) (h3 : ∀ f, f ∈ a.2 → f.length ≤ 9223372036854775807) (hb : ∀ f, f ∈ a.2 → BytF f) :
 g_laws_FnExactScaleGenerator K a i c = some true := by
 obtain ⟨r, hr, hs⟩ := sz_alg (K := K) (by omega) h1 h2 h3
 unfold g_laws_FnExactScaleGenerator
 rw [show (a.1, a.2) = a from rfl, hr, Option.bind_some]
 by_cases h0 : r < 0
 rw [if_pos h0]
 rw [if_neg h0]
 obtain ⟨s1, s2, s3, s4⟩ := hs.resolve_left h0
 have hi : Inp K a := ⟨by omega, s1, s2, s3, hb⟩
 obtain ⟨d1, d2, d3⟩ := scaleR_small (i := i) (c := c) hi
 have d4 := cntF_le d3
 have hcn := cntF_nn a.2
 have hcr := cntF_nn (scaleR a i c).1.2
 have hca : cntA a ≤ 1000000000000 := by unfold cntA; omega
 have hca0 : 0 ≤ cntA a := by unfold cntA; omega
 have hcd0 : 0 ≤ cntA (scaleR a i c).1 := by unfold cntA; omega
 have hcd : cntA (scaleR a i c).1 ≤ 1000000 := by unfold cntA; omega
 have hto := toAlg hi
 have heq := eqAlg_refl (K := K) (x := (scaleR a i c).1) (by omega) (by omega) (by omega) (fun f hf => by have := d3 f hf; omega)
 have heqa := eqAlg_refl (K := K) (x := a) (by omega) (by omega) (by omega) (fun f hf => by have := s3 f hf; omega)
 have hheld := heldAlg (K := K) (x := (scaleR a i c).1) (by omega) (by omega) (by omega) (fun f hf => by have := d3 f hf; omega) (by omega)
 rw [hto, Option.bind_some, show (a.1, a.2) = a from rfl, p_scaleS hK hi, Option.bind_some, Option.bind_some, show (a.1, a.2) = a from rfl, p_scaleI hK hi, Option.bind_some, show ((scaleR a i c).1.1, (scaleR a i c).1.2) = (scaleR a i c).1 from rfl, heq, Option.bind_some, if_pos rfl]
 unfold g_laws_FnExactScaleGenerator_j1
 rw [if_neg (by simp), show (a.1, a.2) = a from rfl, hto, Option.bind_some, show (a.1, a.2) = a from rfl, heqa, Option.bind_some, if_pos rfl, if_pos (by omega), if_neg (by omega), show ((scaleR a i c).1.1, (scaleR a i c).1.2) = (scaleR a i c).1 from rfl, heq, Option.bind_some, if_pos rfl]
 unfold g_laws_FnExactScaleGenerator_j2
 rw [if_neg (by simp), if_pos (by omega), show ((mkA (scaleR a i c).1 1).1, (mkA (scaleR a i c).1 1).2) = mkA (scaleR a i c).1 1 from rfl, hheld, Option.bind_some, if_neg (by omega), if_pos rfl, show (a.1, a.2) = a from rfl, hto, Option.bind_some, show (a.1, a.2) = a from rfl, p_scaleI hK hi, Option.bind_some,
  show ((scaleR a i c).1.1, (scaleR a i c).1.2) = (scaleR a i c).1 from rfl, heq, Option.bind_some, if_pos rfl]
 unfold g_laws_FnExactScaleGenerator_j3
 rw [if_neg (by simp), show ((mkA (scaleR a i c).1 1).1, (mkA (scaleR a i c).1 1).2) = mkA (scaleR a i c).1 1 from rfl, hheld, Option.bind_some, if_neg (by omega), if_pos rfl]
end Go.Proofs.YtfodlhkoafhplaaGreat
