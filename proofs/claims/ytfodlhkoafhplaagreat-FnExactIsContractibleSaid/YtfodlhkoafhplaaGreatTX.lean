/- Walks of the functions that mark. -/
import Derived.Test.YtfodlhkoafhplaaGreatTS3
import Derived.Test.YtfodlhkoafhplaaGreatTTy
namespace Go.Proofs.YtfodlhkoafhplaaGreat
open Go
set_option linter.unusedSimpArgs false
set_option linter.unusedVariables false
/-- a window whose first n cells are marked -/
def Wv8 (mv : Nat → Value) (s : Nat) (v : Value) (m : Nat) (C : OL) (n : Nat) : Prop :=
 (∃ a c, v = .slice a m c ∧ m = 0 ∧ C = []) ∨ ∃ b o c cs E, v = .slice (some ⟨b, o, none⟩) m c ∧ (0 < m → o + m * s ≤ cs.size) ∧ C = [(b, .cells cs E)] ∧ Yl8 mv o cs n
theorem Wv8.val {mv : Nat → Value} {s : Nat} {v : Value} {m : Nat} {C : OL} {n : Nat} (h : Wv8 mv s v m C n) : ∃ a c, v = .slice a m c := by
 rcases h with ⟨a, c, h, _⟩ | ⟨b, o, c, cs, E, h, _⟩
 exact ⟨_, c, h⟩
 exact ⟨_, c, h⟩
instance : Inhabited Value := ⟨undef⟩
def Xn3 : List Wa1 → Int
 | [] => 0
 | f :: fs => 9 * f.length + Xn3 fs
theorem Yx9 {α : Type} {P : Nat → α → Prop} : ∀ (n : Nat), (∀ j, j < n → ∃ a, P j a) → ∃ l : List α, l.length = n ∧ ∀ j a, l[j]? = some a → P j a
 | 0, _ => ⟨[], rfl, fun j a h => by simp at h⟩
 | n + 1, h => by
  obtain ⟨l, hl, hp⟩ := Yx9 n (fun j hj => h j (by omega))
  obtain ⟨a, ha⟩ := h n (by omega)
  refine ⟨l ++ [a], by simp [hl], fun j b hb => ?_⟩
  by_cases hj : j < n
  rw [List.getElem?_append_left (by omega)] at hb; exact hp j b hb
  have : j = n := by
   have := (List.getElem?_eq_some_iff.1 hb).1
   simp [hl] at this; omega
  subst this
  rw [List.getElem?_append_right (by omega), hl, Nat.sub_self] at hb
  cases hb; exact ha
/-! what a marking leaves -/
theorem Yh9.mono {H G G' : FH} {v : Value} {x : F1} (h : Yh9 H G v x) (hs : Sub G G') : Yh9 H G' v x :=
 let ⟨vd, vi, h1, h2, h3⟩ := h; ⟨vd, vi, h1, h2.mono hs, h3.mono hs⟩
theorem Yh9.rep {H G : FH} {v : Value} {x : F1} (h : Yh9 H G v x) : (R.agg (Zl2 (Y9 (Y6 .i64)) (Y9 (Y9 yT)))).p G v x :=
 let ⟨vd, vi, h1, h2, h3⟩ := h.old; ⟨[vd] ++ [vi], h1, [vd], [vi], rfl, ⟨vd, rfl, h2.old⟩, ⟨vi, rfl, h3.old⟩⟩
theorem Yh9.rd {H G : FH} {vd vi : Value} {x : F1} (h : Yh9 H G (.agg ([vd] ++ [vi]).toArray) x) : Z9 (Y6 .i64) G vd x.1 ∧ Z9 (Y9 yT) G vi x.2 := by
 obtain ⟨vd', vi', e, h2, h3⟩ := h.old
 have e' : vd = vd' ∧ vi = vi' := by simpa using e
 obtain ⟨rfl, rfl⟩ := e'
 exact ⟨h2.old, h3.old⟩
end Go.Proofs.YtfodlhkoafhplaaGreat
