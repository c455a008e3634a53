/- Walks of functions: each computes its pure function, if that gives a value. -/
import Derived.Test.YtfodlhkoafhplaaGreatVF5
import Derived.Test.YtfodlhkoafhplaaGreatVTy
import Derived.Test.YtfodlhkoafhplaaGreatVF3
import Derived.Test.YtfodlhkoafhplaaGreatVF7
import Derived.Test.YtfodlhkoafhplaaGreatVF4
import Derived.Test.YtfodlhkoafhplaaGreatVF2
import Derived.Test.YtfodlhkoafhplaaGreatVF6
namespace Go.Proofs.YtfodlhkoafhplaaGreat
open Go
set_option linter.unusedSimpArgs false
set_option linter.unusedVariables false
set_option maxRecDepth 100000
set_option maxHeartbeats 8000000
instance : DecidableEq A8 := fun a b => decidable_of_iff _ (Zf7 (a := a) (b := b))
theorem Xf2 (K : Nat) (x : Int) : Zi9 K x = some (x % 10007) := by
 unfold Zi9
 have h1 : -10007 < x.tmod 10007 ∧ x.tmod 10007 < 10007 := by
  constructor
  have := Int.tmod_lt_of_pos (-x) (show (0 : Int) < 10007 by decide)
  rw [Int.neg_tmod] at this; omega
  exact Int.tmod_lt_of_pos x (by decide)
 rw [IntWalk.i64_in _ (by omega)]
 congr 1
 rw [Int.tmod_eq_emod_of_nonneg (by omega)]
 rw [Int.add_emod_right]
 rcases Int.emod_two_eq x with _ | _ <;> (rw [Int.tmod_eq_emod]; split <;> omega)
def Zs5 (s : MpT) (p : A8) (f : Int) : MpT := if (R2 s p + f) % 10007 = 0 then Zh3 s p else G0 s p ((R2 s p + f) % 10007)
theorem Yf0 {s : MpT} (h : nfm s = true) (a : A8) : 0 ≤ R2 s a ∧ R2 s a ≤ 10006 := by
 by_cases hm : a ∈ s.map Prod.fst
 obtain ⟨⟨b, x⟩, hp, rfl⟩ := List.mem_map.1 hm
 rw [Yq2 (Zy2 (P1 h)) hp]
 have := Zr9 h _ hp
 simp only at this ⊢; omega
 rw [Zp4 hm]; omega
theorem Yl8 {K : Nat} {s : MpT} {p : A8} {f : Int} (h : nfm s = true ∧ -4611686018427387904 ≤ f ∧ f ≤ 4611686018427387904) : T4 K s p f = some (Zs5 s p f) := by
 unfold T4 Zs5
 rw [if_pos h]
 have hb := Yf0 h.1 p
 rw [IntWalk.i64_in _ (by omega), Xf2]
 simp only [Option.bind_some]
 split <;> rfl
theorem Zt0 {s : MpT} {a : A8} {q : A8 × Int} : q ∈ Zh3 s a ↔ q ∈ s ∧ q.1 ≠ a := by
 unfold Zh3
 rw [List.mem_filter]
 constructor
 rintro ⟨h1, h2⟩
 refine ⟨h1, fun e => ?_⟩
 rw [e, Zf7.2 rfl] at h2; simp at h2
 rintro ⟨h1, h2⟩
 refine ⟨h1, ?_⟩
 cases e : eq8 a q.1 with
 | false => rfl
 | true => exact absurd (Zf7.1 e).symm h2
theorem Yh4 {s : MpT} {a : A8} {x : Int} {q : A8 × Int} : q ∈ G0 s a x ↔ q = (a, x) ∨ q ∈ s ∧ q.1 ≠ a := by
 unfold G0
 rw [(Zp9 _ _).mem_iff, List.mem_cons, Zt0]
theorem Zg4 {s : MpT} (h : nfm s = true) (p : A8) (f : Int) : nfm (Zs5 s p f) = true := by
 unfold Zs5
 split
 exact Zz8 (Yq1 (P1 h) p) (fun q hq => Zr9 h q (Zt0.1 hq).1)
 refine Zz8 (Yq4 (P1 h) p _) (fun q hq => ?_)
 rcases Yh4.1 hq with rfl | hq
 simp only; omega
 exact Zr9 h q hq.1
theorem Zw2 {s : MpT} (hs : Srt s) {a : A8} {x : Int} (h : (a, x) ∈ s) : R2 s a = x := Yq2 (Zy2 hs) h
theorem Zv2 {s : MpT} (h : nfm s = true) (p : A8) (f : Int) (a : A8) : R2 (Zs5 s p f) a = if a = p then (R2 s p + f) % 10007 else R2 s a := by
 have hs := P1 h
 have h' := P1 (Zg4 h p f)
 unfold Zs5 at h' ⊢
 split
 rename_i h0
 rw [if_pos h0] at h'
 by_cases e : a = p
 subst e
 rw [if_pos rfl, h0, Zp4]
 intro hm
 obtain ⟨q, hq, e⟩ := List.mem_map.1 hm
 exact (Zt0.1 hq).2 e
 rw [if_neg e]
 by_cases hm : a ∈ s.map Prod.fst
 obtain ⟨⟨b, x⟩, hq, rfl⟩ := List.mem_map.1 hm
 rw [Zw2 hs hq, Zw2 h' (Zt0.2 ⟨hq, e⟩)]
 rw [Zp4 hm, Zp4]
 intro hm'
 obtain ⟨q, hq, rfl⟩ := List.mem_map.1 hm'
 exact hm (List.mem_map.2 ⟨q, (Zt0.1 hq).1, rfl⟩)
 rename_i h0
 rw [if_neg h0] at h'
 by_cases e : a = p
 subst e
 rw [if_pos rfl, Zw2 h' (Yh4.2 (.inl rfl))]
 rw [if_neg e]
 by_cases hm : a ∈ s.map Prod.fst
 obtain ⟨⟨b, x⟩, hq, rfl⟩ := List.mem_map.1 hm
 rw [Zw2 hs hq, Zw2 h' (Yh4.2 (.inr ⟨hq, e⟩))]
 rw [Zp4 hm, Zp4]
 intro hm'
 obtain ⟨q, hq, rfl⟩ := List.mem_map.1 hm'
 rcases Yh4.1 hq with rfl | hq
 exact e rfl
 exact hm (List.mem_map.2 ⟨q, hq.1, rfl⟩)
/-- two sums in normal form are the same if they have the same factors -/
theorem Xe8 {s t : MpT} (hs : nfm s = true) (ht : nfm t = true) (h : ∀ a, R2 s a = R2 t a) : s = t := by
 have key : ∀ {s t : MpT}, nfm s = true → nfm t = true → (∀ a, R2 s a = R2 t a) → ∀ q, q ∈ s → q ∈ t := by
  intro s t hs ht h q hq
  have h1 := Zw2 (P1 hs) (a := q.1) (x := q.2) hq
  rw [h] at h1
  by_cases hm : q.1 ∈ t.map Prod.fst
  obtain ⟨⟨b, x⟩, hp, e⟩ := List.mem_map.1 hm
  simp only at e
  subst e
  rw [Zw2 (P1 ht) hp] at h1
  subst h1; exact hp
  rw [Zp4 hm] at h1
  have := Zr9 hs q hq
  omega
 refine Xc1 (P1 hs) (P1 ht) ?_
 refine (List.perm_ext_iff_of_nodup ?_ ?_).2 (fun q => ⟨key hs ht h q, key ht hs (fun a => (h a).symm) q⟩)
 exact List.Pairwise.of_map Prod.fst (fun a b hab e => hab (by rw [e])) (Zy2 (P1 hs))
 exact List.Pairwise.of_map Prod.fst (fun a b hab e => hab (by rw [e])) (Zy2 (P1 ht))
theorem Wc9 (K : Nat) (s : MpT) (p q : A8) (f g : Int) : (T4 K s p f).bind (fun s => T4 K s q g) = (T4 K s q g).bind (fun s => T4 K s p f) := by
 have hnone : ∀ (s : MpT) (p : A8) (f : Int), ¬ (nfm s = true ∧ -4611686018427387904 ≤ f ∧ f ≤ 4611686018427387904) → T4 K s p f = none := by
  intro s p f h
  unfold T4; rw [if_neg h]
 by_cases hs : nfm s = true
 case neg => rw [hnone s p f (fun h => hs h.1), hnone s q g (fun h => hs h.1)]; rfl
 by_cases hf : -4611686018427387904 ≤ f ∧ f ≤ 4611686018427387904
 case neg =>
  rw [hnone s p f (fun h => hf h.2)]
  cases h : T4 K s q g with
  | none => rfl
  | some t => simp [hnone t p f (fun h => hf h.2)]
 by_cases hg : -4611686018427387904 ≤ g ∧ g ≤ 4611686018427387904
 case neg =>
  rw [hnone s q g (fun h => hg h.2)]
  cases h : T4 K s p f with
  | none => rfl
  | some t => simp [hnone t q g (fun h => hg h.2)]
 rw [Yl8 ⟨hs, hf⟩, Yl8 ⟨hs, hg⟩]
 simp only [Option.bind_some]
 rw [Yl8 ⟨Zg4 hs p f, hg⟩, Yl8 ⟨Zg4 hs q g, hf⟩]
 congr 1
 refine Xe8 (Zg4 (Zg4 hs p f) q g) (Zg4 (Zg4 hs q g) p f) (fun a => ?_)
 rw [Zv2 (Zg4 hs p f), Zv2 (Zg4 hs q g), Zv2 hs, Zv2 hs, Zv2 hs, Zv2 hs]
 by_cases e1 : a = p
 by_cases e2 : a = q
 subst e1; subst e2
 simp only [if_true]
 omega
 rw [if_neg e2, if_pos e1, if_pos e1, if_neg (fun e => e2 (e1.trans e))]
 rw [if_neg e1, if_neg e1]
 by_cases e2 : a = q
 rw [if_pos e2, if_pos e2, if_neg (fun e => e1 (e2.trans e))]
 rw [if_neg e2, if_neg e2]
def J0 (K : Nat) : List (A8 × Int) → MpT → Option MpT
 | [], s => some s
 | o :: os, s => (T4 K s o.1 o.2).bind (J0 K os)
theorem Yc8 {K : Nat} : ∀ (xs ys : List (A8 × Int)) (s : MpT), J0 K (xs ++ ys) s = (J0 K xs s).bind (J0 K ys)
 | [], _, _ => rfl
 | x :: xs, ys, s => by
  show (T4 K s x.1 x.2).bind (J0 K (xs ++ ys)) = ((T4 K s x.1 x.2).bind (J0 K xs)).bind (J0 K ys)
  cases T4 K s x.1 x.2 with
  | none => rfl
  | some t => exact Yc8 xs ys t
theorem Xq3 {K : Nat} {xs ys : List (A8 × Int)} (hp : xs.Perm ys) : ∀ s, J0 K xs s = J0 K ys s := by
 induction hp with
 | nil => intro s; rfl
 | cons x _ ih =>
  intro s
  show (T4 K s x.1 x.2).bind _ = (T4 K s x.1 x.2).bind _
  congr 1; funext t; exact ih t
 | swap x y l =>
  intro s
  have h := congrArg (fun o => Option.bind o (J0 K l)) (Wc9 K s y.1 x.1 y.2 x.2)
  simp only [Option.bind_assoc] at h
  exact h
 | trans _ _ ih1 ih2 => intro s; rw [ih1, ih2]
/-- a step that adds terms, the same ones whatever the sum -/
def Zq8 (K : Nat) (A : MpT → Option MpT) : Prop := ∃ o : Option (List (A8 × Int)), ∀ s, A s = o.bind fun ops => J0 K ops s
def Zp8 (K : Nat) {ρ σ X : Type} (h : X → MpT → σ) (A : MpT → Option (Ex ρ σ)) : Prop := ∃ o : Option (List (A8 × Int) × X), ∀ s, A s = o.bind fun p => (J0 K p.1 s).map fun t => .go (h p.2 t)
section
variable {K : Nat} {A B : MpT → Option MpT} {ρ σ X : Type} {h : X → MpT → σ}
theorem Zq8.comm (hA : Zq8 K A) (hB : Zq8 K B) (s : MpT) : (A s).bind B = (B s).bind A := by
 obtain ⟨a, ha⟩ := hA
 obtain ⟨b, hb⟩ := hB
 have e1 : A = fun s => a.bind fun ops => J0 K ops s := funext ha
 have e2 : B = fun s => b.bind fun ops => J0 K ops s := funext hb
 subst e1; subst e2
 cases a with
 | none => cases b with
  | none => rfl
  | some y => simp only [Option.bind_none, Option.bind_some]; cases J0 K y s <;> rfl
 | some x => cases b with
  | none => simp only [Option.bind_none, Option.bind_some]; cases J0 K x s <;> rfl
  | some y =>
   simp only [Option.bind_some]
   show (J0 K x s).bind (J0 K y) = (J0 K y s).bind (J0 K x)
   rw [← Yc8, ← Yc8]
   exact Xq3 List.perm_append_comm s
theorem Zq8.skip : Zq8 K (fun s => some s) := ⟨some [], fun _ => rfl⟩
theorem Zq8.fail : Zq8 K (fun _ => none) := ⟨none, fun _ => rfl⟩
theorem Zq8.add (p : A8) (f : Int) : Zq8 K (fun s => T4 K s p f) := ⟨some [(p, f)], fun s => by simp [J0]⟩
theorem Zq8.const {β : Type} {c : Option β} {B : β → MpT → Option MpT} (hB : ∀ r, Zq8 K (B r)) : Zq8 K (fun s => c.bind fun r => B r s) := by
 cases c with
 | none => exact .fail
 | some r => exact hB r
theorem Zq8.ite {c : Prop} [Decidable c] (hA : Zq8 K A) (hB : Zq8 K B) : Zq8 K (fun s => if c then A s else B s) := by
 by_cases hc : c
 simp only [if_pos hc]; exact hA
 simp only [if_neg hc]; exact hB
theorem Zp8.go (x : X) : Zp8 K (ρ := ρ) h (fun s => some (.go (h x s))) := ⟨some ([], x), fun _ => rfl⟩
theorem Zp8.fail : Zp8 K (ρ := ρ) h (fun _ => none) := ⟨none, fun _ => rfl⟩
theorem Zp8.bind {B : MpT → Option (Ex ρ σ)} (hA : Zq8 K A) (hB : Zp8 K h B) : Zp8 K h (fun s => (A s).bind B) := by
 obtain ⟨a, ha⟩ := hA
 obtain ⟨b, hb⟩ := hB
 have e1 : A = fun s => a.bind fun ops => J0 K ops s := funext ha
 have e2 : B = fun s => b.bind fun p => (J0 K p.1 s).map fun t => .go (h p.2 t) := funext hb
 subst e1; subst e2
 cases a with
 | none => exact .fail
 | some x => cases b with
  | none => exact ⟨none, fun s => by simp only [Option.bind_none, Option.bind_some]; cases J0 K x s <;> rfl⟩
  | some y =>
   refine ⟨some (x ++ y.1, y.2), fun s => ?_⟩
   simp only [Option.bind_some]
   rw [Yc8]
   cases J0 K x s <;> rfl
theorem Zp8.const {β : Type} {c : Option β} {B : β → MpT → Option (Ex ρ σ)} (hB : ∀ r, Zp8 K h (B r)) : Zp8 K h (fun s => c.bind fun r => B r s) := by
 cases c with
 | none => exact .fail
 | some r => exact hB r
theorem Zp8.ite {c : Prop} [Decidable c] {A B : MpT → Option (Ex ρ σ)} (hA : Zp8 K h A) (hB : Zp8 K h B) : Zp8 K h (fun s => if c then A s else B s) := by
 by_cases hc : c
 simp only [if_pos hc]; exact hA
 simp only [if_neg hc]; exact hB
/-- what such a loop gives, handed on -/
theorem Zp8.step {A : MpT → Option (Ex ρ σ)} (hA : Zp8 K h A) (pr : σ → MpT) (hp : ∀ x s, pr (h x s) = s) :
 ∃ F, Zq8 K F ∧ ∀ {τ : Type} (R : ρ → Option τ) (C : MpT → Option τ) (s : MpT), (A s).bind (Ex.elim R fun y => C (pr y)) = (F s).bind C := by
 obtain ⟨a, ha⟩ := hA
 refine ⟨fun s => a.bind fun p => J0 K p.1 s, ?_, fun R C s => ?_⟩
 cases a with
 | none => exact .fail
 | some p => exact ⟨some p.1, fun _ => rfl⟩
 rw [ha]
 cases a with
 | none => rfl
 | some p =>
  simp only [Option.bind_some]
  cases J0 K p.1 s with
  | none => rfl
  | some t =>
   show C (pr (h p.2 t)) = C t
   rw [hp]
theorem Yd3 (L : Nat → MpT → MpT → Option (Ex ρ σ)) (h0 : ∀ zs s, L 0 zs s = none) (hF : ∀ z, ∃ F, Zq8 K F ∧ ∀ k zs s, L (k + 1) (z :: zs) s = (F s).bind (L k zs)) {zp zq : MpT} (hp : zp.Perm zq) :
 ∀ k s, L k zp s = L k zq s := by
 induction hp with
 | nil => intro k s; rfl
 | cons z _ ih =>
  intro k s
  cases k with
  | zero => rw [h0, h0]
  | succ k =>
   obtain ⟨F, _, hc⟩ := hF z
   rw [hc, hc]
   congr 1; funext t; exact ih k t
 | swap x y l =>
  intro k s
  obtain ⟨Fx, ax, hx⟩ := hF x
  obtain ⟨Fy, ay, hy⟩ := hF y
  cases k with
  | zero => rw [h0, h0]
  | succ k =>
   rw [hx, hy]
   cases k with
   | zero =>
    have e1 : L 0 (x :: l) = fun _ => none := funext fun s => h0 _ s
    have e2 : L 0 (y :: l) = fun _ => none := funext fun s => h0 _ s
    rw [e1, e2]
    cases Fx s <;> cases Fy s <;> rfl
   | succ k =>
    have e1 : L (k + 1) (x :: l) = fun s => (Fx s).bind (L k l) := funext fun s => hx k l s
    have e2 : L (k + 1) (y :: l) = fun s => (Fy s).bind (L k l) := funext fun s => hy k l s
    rw [e1, e2]
    have := congrArg (fun o => Option.bind o (L k l)) (ay.comm ax s)
    simp only [Option.bind_assoc] at this
    exact this
 | trans _ _ ih1 ih2 => intro k s; rw [ih1, ih2]
end
-- impl_power_compare
def Yt0 (xs : MpT) : Bool := xs.all fun p => (l8 p.1).all fun x => decide (0 ≤ x ∧ x ≤ 2305843009213693952)
def Zq3 (K : Nat) (a0 : MpT) : Option (List A8) := if Yt0 a0 = true ∧ a0.length < K ∧ a0.length ≤ 1000000000 then some (a0.map Prod.fst) else none
theorem We2 {xs : MpT} (h : Yt0 xs = true) : ∀ a, a ∈ xs.map Prod.fst → ∀ i, 0 ≤ a i ∧ a i ≤ 2305843009213693952 := by
  intro a ha i
  obtain ⟨p, hp, rfl⟩ := List.mem_map.1 ha
  have h1 := List.all_eq_true.1 (List.all_eq_true.1 h p hp)
  have : ∀ x, x ∈ l8 p.1 → 0 ≤ x ∧ x ≤ 2305843009213693952 := fun x hx => by simpa using h1 x hx
  apply this
  unfold l8
  match i with
  | 0 | 1 | 2 | 3 | 4 | 5 | 6 | 7 => simp
theorem Ws6 {xs : MpT} (hs : Srt xs) {ys : List A8} (hp : ys.Perm (xs.map Prod.fst)) (hy : ys.Pairwise fun p q => bef p q = true) : ys = xs.map Prod.fst := by
  have h1 : Srt (ys.map fun a => (a, (0 : Int))) := by
    unfold Srt
    rw [List.pairwise_map]; exact hy
  have h2 : Srt ((xs.map Prod.fst).map fun a => (a, (0 : Int))) := by
    unfold Srt
    rw [List.map_map, List.pairwise_map]; exact hs
  have h3 := congrArg (List.map Prod.fst) (Xc1 h1 h2 (hp.map _))
  simpa [List.map_map, Function.comp_def] using h3
def Yp9 (H : FH) (v : Value) (xs : List A8) (C : OL) : Prop := ∃ b c cs, v = .slice (some ⟨b, 0, none⟩) xs.length c ∧ xs.length ≤ c ∧ c ≤ maxLen ∧ cs.size = c * 8 ∧ C = [(b, .cells cs 188)] ∧
    ∀ i x, xs[i]? = some x → ∀ j, j < 8 → cs[i * 8 + j]? = (Z7 .i64 x)[j]?
theorem Yp9.of {H : FH} {v : Value} {xs : List A8} {C : OL} (h : V0 (Zr5 .i64) 188 H v xs C) (hn : xs ≠ []) : Yp9 H v xs C := by
  rcases h with ⟨_, h, _⟩ | ⟨b, c, cs, h1, h2, h3, h4, h5, h6⟩
  · exact absurd h hn
  · refine ⟨b, c, cs, h1, h2, h3, h4, h5, fun i x hx j hj => ?_⟩
    obtain ⟨ecs, hr, hj'⟩ := h6 i x hx
    have hr : ecs = Z7 .i64 x := hr
    subst hr
    exact hj' j hj
theorem Wr6 {n : Nat} {f : Fr} {w : World} {H : FH} {L : OL} {ops : Array Oper} {J : Fr → World → Prop} {r : List Oper} {T : TypeId} {d : Nat} {pos : String} {af : Array Edge} (hS : St H w L) (hn : Nat.blt d n = true)
    (K : ∀ u w' C', V0 (Zr5 .i64) 188 H u [] C' → Yp9 H u [] C' → St H w' (C' ++ L) → W6 Tryz.prog n ops J r (upd f d u) w') : W6 Tryz.prog n ops J (⟨some d, .buildSlice 120 0 #[], T, pos, af, none⟩ :: r) f w := by
  have hrun := Yb4 (P := Tryz.prog) (w := w) Xl8 Zn3 [] rfl (by simp) (by simp)
  refine U9 (v := .slice (some ⟨w.heap.size, 0, none⟩) 0 0) (w' := w.alloc (.cells #[] 188)) rfl rfl hn (by have h := hrun; simp only [execOp]; exact Za6 (by simpa using h))
    (K _ _ [(w.heap.size, .cells #[] 188)] (.inr ⟨w.heap.size, 0, #[], rfl, by simp, by simp [maxLen], by simp, rfl, by simp⟩) ⟨w.heap.size, 0, #[], rfl, by simp, by simp [maxLen], by simp, rfl, by simp⟩ (hS.alloc _))
theorem Yp7 {K : Nat} {a0 : MpT} {r : List A8} (q0 : Zq3 K a0 = some r) {H : FH} {w : World} {L : OL} {s0 : Value} (hs0 : Q0 .i64 H s0 a0) (hS : St H w L) :
    Calls Tryz.prog 177 #[s0] w (T2 (fun v G => (R.sl (Zr5 .i64)).p G v r) H L) := by
  have Z2 := Sub.refl H
  refine X3 Tryz.func177 rfl Tryz.ntmps177 rfl ?_
  unfold Zq3 at q0
  by_cases hg : Yt0 a0 = true ∧ a0.length < K ∧ a0.length ≤ 1000000000
  case neg => rw [if_neg hg] at q0; cases q0
  rw [if_pos hg] at q0
  obtain ⟨hok, hK, hlen⟩ := hg
  cases q0
  refine Z3 ?_
  refine Z0 ?_
  refine Z5 (Value.slice none 0 0) rfl rfl ?_
  refine Z1 ?_
  refine Z3 ?_
  refine Z0 ?_
  refine Wr6 hS rfl ?_
  intro u1 w2 C3 ho4 hnb0 hS
  have hS : St H w2 (C3 ++ L) := hS
  refine Z5 (u1) rfl rfl ?_
  refine Z1 ?_
  refine Z3 ?_
  refine Z3 ?_
  refine Z0 ?_
  refine Z4 (s0) rfl rfl ?_
  refine Yg3 Zh5 rfl hs0 hS rfl ?_
  intro it6 w7 C8 ho9 hS
  have hS : St H w7 (C8 ++ (C3 ++ L)) := hS
  refine Z1 ?_
  refine Y8 ?_
  refine W5 (id := 0) (fun k f w => ∃ (x0_own10 : MpT) (x0_own5 : (List A8)) (H1 : FH) (Cx0_own10 : OL) (Cx0_own5 : OL) (ux0_own5 : Value), ((x0_own5 ++ x0_own10.map Prod.fst).Perm (a0.map Prod.fst) ∧ x0_own10.length < k ∧ (x0_own5 = [] → Yp9 H1 ux0_own5 x0_own5 Cx0_own5)) ∧ Sub H H1 ∧ St H1 w (Cx0_own10 ++ (Cx0_own5 ++ L)) ∧ Ze8 .i64 H1 it6 x0_own10 none Cx0_own10 ∧ V0 (Zr5 .i64) 188 H1 ux0_own5 x0_own5 Cx0_own5 ∧ ev f (.tmp 3) = ux0_own5 ∧ ev f (.tmp 7) = it6) (fun f w => ∃ (y0_own5 : (List A8)) (H1 : FH) (Cy0_own10 : OL) (Cy0_own5 : OL) (uy0_own5 : Value), (y0_own5.Perm (a0.map Prod.fst) ∧ Yp9 H1 uy0_own5 y0_own5 Cy0_own5) ∧ Sub H H1 ∧ St H1 w (Cy0_own10 ++ (Cy0_own5 ++ L)) ∧ Ze8 .i64 H1 it6 ([] : MpT) none Cy0_own10 ∧ V0 (Zr5 .i64) 188 H1 uy0_own5 y0_own5 Cy0_own5 ∧ ev f (.tmp 3) = uy0_own5) rfl ?_ ?_ K ?_ ?_
  · rintro f w ⟨x0_own10, x0_own5, H1, Cx0_own10, Cx0_own5, ux0_own5, ⟨_, hk, _⟩, _⟩
    omega
  · rintro k f1_0 w1_0 ih0 hx0 ⟨x0_own10, x0_own5, H1_0, Cx0_own10, Cx0_own5, ux0_own5, ⟨hpm, hk, hnb⟩, Z2, hS, hox0_own10, hox0_own5, ff1_0_3, ff1_0_7⟩
    refine Z3 ?_
    refine Z0 ?_
    refine Yl3 (by exact ff1_0_7) hox0_own10 hS rfl ?_ ?_
    · intro hr11; subst hr11
      refine W9 (Value.bool false) rfl rfl rfl ?_
      refine Z1 ?_
      refine Z3 ?_
      refine Z8 rfl ?_
      refine W4 rfl ?_
      have hnb' : Yp9 H1_0 ux0_own5 x0_own5 Cx0_own5 := by
        by_cases h : x0_own5 = []
        · exact hnb h
        · exact Yp9.of hox0_own5 h
      exact hx0 _ _ ⟨x0_own5, H1_0, Cx0_own10, Cx0_own5, ux0_own5, ⟨by simpa using hpm, hnb'⟩, Z2, hS, hox0_own10, hox0_own5, ff1_0_3⟩
    · intro z12 zr13 w14 C15 hp16 hi17 hS
      have hS : St H1_0 w14 (C15 ++ (Cx0_own5 ++ L)) := hS
      have hlz := hp16.length_eq
      rw [List.length_cons] at hlz
      have hpm2 : ((x0_own5 ++ [z12.1]) ++ zr13.map Prod.fst).Perm (a0.map Prod.fst) := by
        refine List.Perm.trans ?_ hpm
        rw [List.append_assoc]
        refine List.Perm.append_left _ ?_
        exact (hp16.map Prod.fst).symm
      have hll := hpm.length_eq
      rw [List.length_append, List.length_map, List.length_map] at hll
      refine W9 (Value.bool true) rfl rfl rfl ?_
      refine Z1 ?_
      refine Z3 ?_
      refine Y0 rfl ?_
      refine Y7 ?_
      refine Y8 ?_
      refine Z3 ?_
      refine Z0 ?_
      refine Yg6 (by exact ff1_0_7) hi17 hS rfl ?_
      refine W9 (Value.agg (Z7 .i64 z12.1).toArray) rfl rfl rfl ?_
      refine V1 (z := Value.agg (Z7 .i64 (fun _ => 0)).toArray) (Z7 .i64 (fun _ => 0)).toArray Zn3.zero rfl hS rfl ?_
      intro b18 w19 hS
      have hS : St H1_0 w19 ([(b18, .cells (Z7 .i64 (fun _ => 0)).toArray 188)] ++ (C15 ++ (Cx0_own5 ++ L))) := hS
      refine W0 (v := Value.agg (Z7 .i64 z12.1).toArray) (vs := (Z7 .i64 z12.1).toArray) (cs := (Z7 .i64 (fun _ => 0)).toArray) N4 rfl rfl rfl hS rfl (S9 .i64 z12.1) rfl ?_
      intro w21 hS
      have hS : St H1_0 w21 ([(b18, .cells (Z7 .i64 z12.1).toArray 188)] ++ (C15 ++ (Cx0_own5 ++ L))) := hS
      refine Z1 ?_
      refine Z0 ?_
      refine Z4 (ux0_own5) (by exact ff1_0_3) rfl ?_
      refine W2 N4 rfl (hS.own (b18, .cells (Z7 .i64 z12.1).toArray 188) (List.mem_append_left _ (List.mem_singleton.2 rfl))) rfl rfl ?_
      refine Zd8 (τ := (Zr5 .i64)) Xl8 Zn3 rfl [Value.agg (Z7 .i64 z12.1).toArray] [z12.1] rfl rfl (Za3 rfl) (Zn7 rfl) (by decide) (by decide) hS rfl ?_
      intro u22 H23 w24 sb25 hS hl26
      have Z2 := Z2.trans sb25
      have hox0_own5 := hox0_own5.mono sb25
      have hi17 := hi17.mono sb25
      have hS : St H23 w24 ([(b18, .cells (Z7 .i64 z12.1).toArray 188)] ++ (C15 ++ (Cx0_own5 ++ L))) := hS
      have hg27 : x0_own5.length + ([z12.1]).length ≤ 1099511627776 := by simp; omega
      have hS : St H23 w24 (Cx0_own5 ++ ([(b18, .cells (Z7 .i64 z12.1).toArray 188)] ++ (C15 ++ L))) := hS.perm (Zb7 (A1 := [(b18, .cells (Z7 .i64 z12.1).toArray 188)]) (A2 := C15))
      refine F4 (τ := (Zr5 .i64)) Va5 rfl rfl rfl hox0_own5 hS hl26 hg27 rfl ?_
      intro u28 w29 C30 ho31 hS
      have hS : St H23 w29 (C30 ++ ([(b18, .cells (Z7 .i64 z12.1).toArray 188)] ++ (C15 ++ L))) := hS
      have hS : St H23 w29 ([(b18, .cells (Z7 .i64 z12.1).toArray 188)] ++ (C15 ++ (C30 ++ L))) := hS.perm (Zb7 (A1 := [(b18, .cells (Z7 .i64 z12.1).toArray 188)]) (A2 := C15)).symm
      refine Z5 (u28) rfl rfl ?_
      refine Z1 ?_
      refine X2 ?_
      have hS := St.dropA (A := [(b18, .cells (Z7 .i64 z12.1).toArray 188)]) hS
      exact ih0 _ _ ⟨zr13, (x0_own5 ++ [z12.1]), H23, C15, C30, u28, ⟨hpm2, by omega, fun h => absurd h (by simp)⟩, Z2, hS, hi17.drop, ho31, rfl, ff1_0_7⟩
  · exact ⟨a0, ([] : List A8), H, C8, C3, u1, ⟨by simp, hK, fun _ => hnb0⟩, Z2, hS, ho9, ho4, rfl, rfl⟩
  · rintro f2_0 w2_0 ⟨y0_own5, H2_0, Cy0_own10, Cy0_own5, uy0_own5, ⟨hpm, hnb⟩, Z2, hS, hoy0_own10, hoy0_own5, ff2_0_3⟩
    obtain ⟨b, c, cs, rfl, h2, h3, h4, rfl, h6⟩ := hnb
    refine Z3 ?_
    refine Z0 ?_
    refine Z4 _ (by exact ff2_0_3) rfl ?_
    have hS := hS.dropA
    have hll := hpm.length_eq
    rw [List.length_map] at hll
    have hnd : y0_own5.Nodup := hpm.nodup_iff.2 (Zy2 hs0.srt)
    refine Y9 (vs := #[.slice (some ⟨b, 0, none⟩) y0_own5.length c, .func (.func 221) #[] #[]]) Tryz.call253 (U7 rfl rfl) rfl (Ws1 h2 h3 h4 h6 hS (fun a ha => We2 hok a (hpm.mem_iff.1 ha)) (by omega) hnd) ?_
    rintro e3 w3 ⟨rfl, ys, C4, hp5, hsr, hS, ho5⟩
    refine ⟨_, rfl, ?_⟩
    refine Z1 ?_
    refine Z3 ?_
    refine Z0 ?_
    refine Z4 _ (by exact ff2_0_3) rfl ?_
    refine Z5 _ rfl rfl ?_
    refine Z1 ?_
    refine X0 (vs := [.slice (some ⟨b, 0, none⟩) y0_own5.length c]) Tryz.func177 ⟨rfl, trivial⟩ ?_
    obtain ⟨H32, sb33, hS, hf34⟩ := ho5.freeze hS
    have Z2 := Z2.trans sb33
    have he := Ws6 hs0.srt (hp5.trans hpm) hsr
    rw [he] at hf34
    exact ⟨_, _, rfl, Z2, hS, hf34⟩
def M2 (K : Nat) (a0 : (List Int)) (a1 : MpT) (a2 : MpT) : Nat → Int → MpT → Option (Ex MpT (MpT))
 | 0, _, _ => none
 | k + 1, a3, a5 => (if a3 < (a1.length : Int) then ((Zp3 K a0 ((rd a1 a3).1, (rd a1 a3).2) a2).bind fun d2 => ((Zc6 K a5 d2 1).bind fun c8 => M2 K a0 a1 a2 k (a3 + 1) c8)) else some (.go a5))
def D9 (K : Nat) (a0 : (List Int)) (a1 : MpT) (a2 : MpT) : Option MpT := ((M2 K a0 a1 a2 K 0 ([] : List (A8 × Int))).bind (Ex.elim (fun r => some r) (fun s => (fun (a7 : MpT) => some a7) s)))
theorem Zo4 {K : Nat} {a0 : (List Int)} {a1 : MpT} {a2 : MpT} {r : MpT} (q0 : D9 K a0 a1 a2 = some r) {H : FH} {w : World} {L : OL} {s0 : Value} {s1 : Value} {s2 : Value} (c0 : Y1 (Y6 .i64) H s0 a0) (b2 : Y1 yT H s1 a1) (b3 : Y1 yT H s2 a2) (hS : St H w L) :
 Calls Tryz.prog 171 #[s0, vA ([s1]), vA ([s2])] w (T2 (fun v G => (R.agg (X6 yT)).p G v r) H L) := by
 have Z2 := Sub.refl H
 refine X3 Tryz.func171 rfl Tryz.ntmps171 rfl ?_
 unfold D9 at q0
 refine Z3 (Z0 ?_)
 refine S4 (v := vA ([s1])) ([s1]).toArray rfl rfl hS rfl ?_
 intro b1 w2 hS
 refine S4 (v := vA ([s2])) ([s2]).toArray rfl rfl hS rfl ?_
 intro b4 w5 hS
 refine V1 (z := vA ([vN])) ([vN]).toArray Zd2.zero rfl hS rfl ?_
 intro b7 w8 hS
 refine Z1 (Z3 (Z0 ?_))
 refine Q1 (vA ([vN])) Yi3 rfl ?_
 refine V1 (z := vA ([vN])) ([vN]).toArray Zd2.zero rfl hS rfl ?_
 intro d1 l3 hS
 refine W0 (v := vA ([vN])) (vs := ([vN]).toArray) (cs := ([vN]).toArray) T1 rfl rfl rfl hS rfl (T8 rfl) rfl ?_
 intro l4 hS
 refine Z1 (Z3 (Z3 (Z0 (Z5 (vI 0) rfl rfl (Z1 (Y8 ?_))))))
 have d8 : Y1 yT H (.slice none 0 0) ([] : List (A8 × Int)) := Y1.nil
 obtain ⟨d9, a8, e0⟩ := bind_some q0
 refine W5 (id := 0) (fun k f w => ∃ (a3 : Int) (a5 : MpT) (H1 : FH) (a4 : Value), M2 K a0 a1 a2 k a3 a5 = some d9 ∧ Sub H H1 ∧ St H1 w ([(d1, cA ([a4]) 47)] ++ ([(b7, cA ([vN]) 47)] ++ ([(b4, cA ([s2]) 47)] ++ ([(b1, cA ([s1]) 47)] ++ L)))) ∧ 0 ≤ a3 ∧ Y1 yT H1 a4 a5 ∧ Y1 (Y6 .i64) H1 s0 a0 ∧ Y1 yT H1 s1 a1 ∧ Y1 yT H1 s2 a2 ∧ ev f (.tmp 0) = s0 ∧ ev f (.tmp 4) = vP b1 ∧ ev f (.tmp 5) = vP b4 ∧ ev f (.tmp 6) = vP b7 ∧ ev f (.tmp 7) = vP d1 ∧ ev f (.tmp 8) = vI a3) (fun f w => ∃ (a7 : MpT) (H1 : FH) (a6 : Value), d9 = .go a7 ∧ Sub H H1 ∧ St H1 w ([(d1, cA ([a6]) 47)] ++ ([(b7, cA ([vN]) 47)] ++ ([(b4, cA ([s2]) 47)] ++ ([(b1, cA ([s1]) 47)] ++ L)))) ∧ Y1 yT H1 a6 a7 ∧ Y1 yT H1 s1 a1 ∧ Y1 yT H1 s2 a2 ∧ ev f (.tmp 6) = vP b7 ∧ ev f (.tmp 7) = vP d1) rfl ?_ ?_ K ?_ ?_
 rintro f w ⟨a3, a5, H1, a4, a8, _⟩
 rw [M2] at a8; cases a8
 rintro k h5 h6 g8 g9 ⟨a3, a5, f2, a4, a8, Z2, hS, h0, a9, c0, b2, b3, c3, b6, c4, c5, b8, b9⟩
 rw [M2] at a8
 refine Z3 (Z3 (Z0 (Z4 (vI a3) (by exact b9) rfl (Y3 U4 (by exact b6) rfl ?_))))
 refine Y4 (s1) Q7 rfl (hS.get (mR (mR (mR mL)))) rfl rfl ?_
 have h7 := b2.bound
 refine W7 R5 rfl b2 rfl ?_
 refine V7 (k := .i64) (a := a3) (b := (a1.length : Int)) rfl rfl rfl (Z1 ?_)
 by_cases c9 : a3 < (a1.length : Int)
 rw [if_pos c9] at a8
 refine Y0 (bT c9 rfl) (Y7 (Z3 (Y8 ?_)))
 obtain ⟨h1, h2, h8, l5, _, f3, d3, ⟨_, _, rfl, rfl, rfl⟩, f4⟩ := b2.elem (i := a3) (by omega) (by omega)
 obtain ⟨d2, e5, a8⟩ := bind_some a8
 obtain ⟨c8, e6, a8⟩ := bind_some a8
 refine U6 10 (P9 [(17, MP.eq (vA ([a4]))), (18, MP.eq (s0)), (19, MP.eq (vP b1)), (20, MP.eq (s1)), (21, MP.eq (vI a3)), (22, MP.eq (Value.pointer (some ⟨h1, h2, none⟩))), (23, MP.eq (vA (Z7 .u8 ((rd a1 a3).1) ++ [vI ((rd a1 a3).2)]))), (24, MP.eq (vA ([s2]))), (25, MP.rep (R.agg (X6 yT)) (d2)), (26, MP.rep (R.agg (X6 yT)) (c8))]) [] mixed rfl rfl rfl hS (Z6 rfl ?_ (Z6 rfl ?_ (Z6 rfl ?_ (Z6 rfl ?_ (Z6 rfl ?_ (Z6 rfl ?_ (Z6 rfl ?_ (Z6 rfl ?_ (Z6 rfl ?_ (Z6 rfl ?_ U8)))))))))) ?_
 intro l6 l7 l9 m0 h9 hS f5 i0 hcq
 refine W2 T1 (evT (f5 7 rfl) b8) (hS.get (mR mL)) rfl rfl ?_
 exact qn (.refl _) rfl hS rfl
 intro m1 m2 m3 m4 i1 hS f6 i2 hcq
 refine Z4 (s0) (evT (f6 0 rfl) c3) rfl ?_
 exact qn (.refl _) rfl hS rfl
 intro m5 m6 m7 m8 i3 hS f7 i4 hcq
 refine Y3 U4 (evT (f7 4 rfl) b6) rfl ?_
 exact qn (.refl _) rfl hS rfl
 intro m9 n0 n1 n2 i5 hS i6 f8 hcq
 refine Y4 (s1) Q7 (eM (f8 2 19 rfl rfl)) (hS.get (mR (mR (mR (mR mL))))) rfl rfl ?_
 exact qn (.refl _) rfl hS rfl
 intro n3 n4 n5 n6 i7 hS f9 i8 hcq
 refine Z4 (vI a3) (evT (f9 8 rfl) b9) rfl ?_
 exact qn (.refl _) rfl hS rfl
 intro n7 n8 n9 o0 i9 hS j0 e1 hcq
 refine W3 R5 rfl (eM (e1 3 20 rfl rfl)) f3 (eM (e1 4 21 rfl rfl)) (by omega) (by omega) rfl ?_
 exact qn (.refl _) rfl hS rfl
 intro o1 o2 o3 o4 g0 hS j1 g1 hcq
 have d3 := g0.1 _ _ d3
 refine V6 (Z7 .u8 ((rd a1 a3).1) ++ [vI ((rd a1 a3).2)]) Zu2 (eM (g1 5 22 rfl rfl)) (hS.froz _ _ d3) rfl f4 rfl ?_
 exact qn (.refl _) rfl hS rfl
 intro o5 o6 o7 o8 j2 hS g2 j3 hcq
 refine W2 T1 (evT (g2 5 rfl) c4) (hS.get (mR (mR (mR mL)))) rfl rfl ?_
 exact qn (.refl _) rfl hS rfl
 intro o9 p0 p1 p2 e2 hS j4 d4 hcq
 have c0 := c0.mono e2
 have b3 := b3.mono e2
 refine Y9 Tryz.call251 (I6 (eM (d4 1 18 rfl rfl)) (eM (d4 6 23 rfl rfl)) (eM (d4 7 24 rfl rfl))) rfl (Yr7 e5 c0 b3 hS) ?_
 rintro j5 j6 ⟨g3, j7, rfl, e7, hS, e8⟩
 refine ⟨g3, rfl, ?_⟩
 exact qn e7 rfl hS e8
 intro j8 j9 k0 k1 e9 hS h4 d5 hcq
 have a9 := a9.mono e9
 obtain ⟨k2, g4, ⟨_, rfl, ⟨h3, rfl, d6⟩⟩⟩ := gvR (d5 8 25 rfl rfl)
 refine Y9 Tryz.call143 (I6 (eM (d5 0 17 rfl rfl)) g4 rfl) rfl (Zt1 e6 a9 d6 hS) ?_
 rintro k3 k4 ⟨g5, k5, rfl, f0, hS, d0⟩
 refine ⟨g5, rfl, ?_⟩
 have d0 := ((R.agg (X6 yT))).mono (Zy9 _ _) d0
 exact qn f0 rfl hS d0
 intro k6 g6 e3 c1 hS b0 f1 hcq
 have hS : St e3 g6 ([(d1, cA ([a4]) 47)] ++ ([(b7, cA ([vN]) 47)] ++ ([(b4, cA ([s2]) 47)] ++ ([(b1, cA ([s1]) 47)] ++ L)))) := hS
 have Z2 := Z2.trans c1
 have c0 := c0.mono c1
 have b2 := b2.mono c1
 have b3 := b3.mono c1
 have e4 := evT (b0 7 rfl) b8
 obtain ⟨k7, g7, ⟨_, rfl, ⟨c2, rfl, c6⟩⟩⟩ := gvR (f1 9 26 (by decide) rfl)
 refine W0 (v := vA ([c2])) (vs := ([c2]).toArray) (cs := ([a4]).toArray) T1 (by exact e4) (by exact g7) rfl hS rfl (T8 c6.isOne) rfl ?_
 intro k8 hS
 refine Z1 (X2 (Z0 (Z4 (vI a3) (by exact (evT (b0 8 rfl) b9)) rfl ?_)))
 refine W8 (a3 + 1) rfl rfl (IntWalk.i64_in _ (by omega)) rfl (Z5 (vI (a3 + 1)) rfl rfl (Z1 ?_))
 exact g8 _ _ ⟨(a3 + 1), c8, e3, c2, a8, Z2, hS, (by omega), c6, c0, b2, b3, (evT (b0 0 rfl) c3), (evT (b0 4 rfl) b6), (evT (b0 5 rfl) c4), (evT (b0 6 rfl) c5), e4, rfl⟩
 rw [if_neg c9] at a8
 refine Z8 (bF c9 rfl) ?_
 refine W4 rfl ?_
 have hz := Option.some.inj a8
 subst hz
 exact g9 _ _ ⟨a5, f2, a4, rfl, Z2, hS, a9, b2, b3, c5, b8⟩
 exact ⟨0, ([] : List (A8 × Int)), H, (vN), a8, Z2, hS, (by omega), d8, c0, b2, b3, rfl, rfl, rfl, rfl, rfl, rfl⟩
 rintro k9 l0 ⟨a7, l1, a6, rfl, Z2, hS, b5, b2, b3, c7, d7⟩
 dsimp only [Ex.elim] at e0
 refine Z3 (Z0 ?_)
 refine W2 T1 (by exact d7) (hS.get mL) rfl rfl ?_
 have hS := hS.perm U1
 refine W0 (v := vA ([a6])) (vs := ([a6]).toArray) (cs := ([vN]).toArray) T1 (by exact c7) rfl rfl hS rfl (T8 b5.isOne) rfl ?_
 intro l2 hS
 have hS := hS.perm U1.symm
 refine Z1 ?_
 refine X0 (vs := [vA ([a6])]) Tryz.func171 ⟨⟨_, (by exact c7), U5 T1 (hS.get (mR mL)) rfl⟩, trivial⟩ ?_
 have hz := Option.some.inj e0
 subst hz
 exact ⟨_, _, rfl, Z2, (St.dropA (St.dropA (St.dropA (St.dropA hS)))), ⟨_, rfl, ⟨_, rfl, b5⟩⟩⟩
def I2 (K : Nat) (a0 : MpT) (a1 : MpT) : Nat → Int → Option (Ex Bool (Unit))
 | 0, _ => none
 | k + 1, a3 => (if a3 < (a0.length : Int) then (if a3 < (a1.length : Int) then ((Zt5 K ((rd a0 a3).1, (rd a0 a3).2) ((rd a1 a3).1, (rd a1 a3).2)).bind fun a7 => (if a7 = true then I2 K a0 a1 k (a3 + 1) else some (.ret false))) else none) else some (.go ()))
def Zq9 (K : Nat) (a0 : MpT) (a1 : MpT) : Option Bool := (if (a0.length : Int) = (a1.length : Int) then ((I2 K a0 a1 K 0).bind (Ex.elim (fun r => some r) (fun s => some true))) else some false)
theorem Yx4 {K : Nat} {a0 : MpT} {a1 : MpT} {r : Bool} (q0 : Zq9 K a0 a1 = some r) {H : FH} {w : World} {L : OL} {s0 : Value} {s1 : Value} (a6 : Y1 yT H s0 a0) (a9 : Y1 yT H s1 a1) (hS : St H w L) :
 Calls Tryz.prog 110 #[s0, s1] w (T2 (fun v G => R.bool.p G v r) H L) := by
 have Z2 := Sub.refl H
 refine X3 Tryz.func110 rfl Tryz.ntmps110 rfl ?_
 unfold Zq9 at q0
 refine Z3 (Z0 (Z5 (Value.bool false) rfl rfl (Z1 (Z3 (Z3 (Z0 (Z4 (s0) rfl rfl ?_)))))))
 have i5 := a6.bound
 refine W7 R5 rfl a6 rfl (Z4 (s1) rfl rfl ?_)
 have i6 := a9.bound
 refine W7 R5 rfl a9 rfl ?_
 refine J2 (k := .i64) (a := (a0.length : Int)) (b := (a1.length : Int)) rfl rfl rfl (Z1 ?_)
 by_cases b7 : (a0.length : Int) = (a1.length : Int)
 rw [if_pos b7] at q0
 refine Z8 (bN b7 rfl) (Y7 (Z3 (Z3 (Z0 (Z5 (vI 0) rfl rfl (Z1 (Y8 ?_)))))))
 obtain ⟨b9, a4, b2⟩ := bind_some q0
 refine W5 (id := 0) (fun k f w => ∃ (a3 : Int) (H1 : FH), I2 K a0 a1 k a3 = some b9 ∧ Sub H H1 ∧ St H1 w (L) ∧ 0 ≤ a3 ∧ Y1 yT H1 s0 a0 ∧ Y1 yT H1 s1 a1 ∧ ev f (.tmp 0) = s0 ∧ ev f (.tmp 1) = s1 ∧ ev f (.tmp 5) = vI a3) (fun f w => ∃ (H1 : FH), b9 = .go () ∧ Sub H H1 ∧ St H1 w (L)) rfl ?_ ?_ K ?_ ?_
 rintro f w ⟨a3, H1, a4, _⟩
 rw [I2] at a4; cases a4
 rintro k f3 f4 e4 e5 ⟨a3, c9, a4, Z2, hS, e6, a6, a9, a8, b1, a5⟩
 rw [I2] at a4
 refine Z3 (Z3 (Z0 (Z4 (vI a3) (by exact a5) rfl (Z4 (s0) (by exact a8) rfl ?_))))
 have i7 := a6.bound
 refine W7 R5 rfl a6 rfl ?_
 refine V7 (k := .i64) (a := a3) (b := (a0.length : Int)) rfl rfl rfl (Z1 ?_)
 by_cases b8 : a3 < (a0.length : Int)
 rw [if_pos b8] at a4
 refine Y0 (bT b8 rfl) (Y7 (Z3 (Y8 (Z3 ?_))))
 obtain ⟨e7, e8, f5, i8, _, d0, b5, ⟨_, _, rfl, rfl, rfl⟩, d1⟩ := a6.elem (i := a3) (by omega) (by omega)
 obtain ⟨f7, a4⟩ := gd a4
 obtain ⟨e9, f0, f8, i9, _, d2, b6, ⟨_, _, rfl, rfl, rfl⟩, d3⟩ := a9.elem (i := a3) (by omega) (by omega)
 obtain ⟨a7, c5, a4⟩ := bind_some a4
 refine U6 10 (P9 [(17, MP.eq (s0)), (18, MP.eq (vI a3)), (19, MP.eq (Value.pointer (some ⟨e7, e8, none⟩))), (20, MP.eq (vA (Z7 .u8 ((rd a0 a3).1) ++ [vI ((rd a0 a3).2)]))), (21, MP.eq (s1)), (22, MP.eq (vI a3)), (23, MP.eq (Value.pointer (some ⟨e9, f0, none⟩))), (24, MP.eq (vA (Z7 .u8 ((rd a1 a3).1) ++ [vI ((rd a1 a3).2)]))), (25, MP.eq (Value.bool a7)), (26, MP.eq (Value.bool (!a7)))]) [] mixed rfl rfl rfl hS (Z6 rfl ?_ (Z6 rfl ?_ (Z6 rfl ?_ (Z6 rfl ?_ (Z6 rfl ?_ (Z6 rfl ?_ (Z6 rfl ?_ (Z6 rfl ?_ (Z6 rfl ?_ (Z6 rfl ?_ U8)))))))))) ?_
 intro f6 w7 H8 X9 f9 hS d4 g0 hcq
 refine Z4 (s0) (evT (d4 0 rfl) a8) rfl ?_
 exact qn (.refl _) rfl hS rfl
 intro j0 j1 j2 j3 g1 hS d5 g2 hcq
 refine Z4 (vI a3) (evT (d5 5 rfl) a5) rfl ?_
 exact qn (.refl _) rfl hS rfl
 intro j4 j5 j6 j7 g3 hS g4 c0 hcq
 refine W3 R5 rfl (eM (c0 0 17 rfl rfl)) d0 (eM (c0 1 18 rfl rfl)) (by omega) (by omega) rfl ?_
 exact qn (.refl _) rfl hS rfl
 intro j8 j9 k0 k1 d6 hS g5 d7 hcq
 have b5 := d6.1 _ _ b5
 refine V6 (Z7 .u8 ((rd a0 a3).1) ++ [vI ((rd a0 a3).2)]) Zu2 (eM (d7 2 19 rfl rfl)) (hS.froz _ _ b5) rfl d1 rfl ?_
 exact qn (.refl _) rfl hS rfl
 intro k2 k3 k4 k5 g6 hS d8 g7 hcq
 refine Z4 (s1) (evT (d8 1 rfl) b1) rfl ?_
 exact qn (.refl _) rfl hS rfl
 intro k6 k7 k8 k9 g8 hS d9 g9 hcq
 refine Z4 (vI a3) (evT (d9 5 rfl) a5) rfl ?_
 exact qn (.refl _) rfl hS rfl
 intro l0 l1 l2 l3 h0 hS h1 c1 hcq
 refine W3 R5 rfl (eM (c1 4 21 rfl rfl)) d2 (eM (c1 5 22 rfl rfl)) (by omega) (by omega) rfl ?_
 exact qn (.refl _) rfl hS rfl
 intro l4 l5 l6 l7 e0 hS h2 e1 hcq
 have b6 := e0.1 _ _ b6
 refine V6 (Z7 .u8 ((rd a1 a3).1) ++ [vI ((rd a1 a3).2)]) Zu2 (eM (e1 6 23 rfl rfl)) (hS.froz _ _ b6) rfl d3 rfl ?_
 exact qn (.refl _) rfl hS rfl
 intro l9 m0 m1 m2 h3 hS h4 c2 hcq
 refine Y9 Tryz.call201 (U7 (eM (c2 3 20 rfl rfl)) (eM (c2 7 24 rfl rfl))) rfl (Yz5 c5  hS) ?_
 rintro h5 h6 ⟨_, h7, rfl, c6, hS, rfl⟩
 refine ⟨_, rfl, ?_⟩
 exact qn c6 rfl hS rfl
 intro h8 h9 i0 i1 f1 hS f2 c7 hcq
 refine M4 (b := a7) (eM (c7 8 25 rfl rfl)) rfl ?_
 exact qn (.refl _) rfl hS rfl
 intro e2 e3 c3 b3 hS b4 c8 hcq
 have hS : St c3 e3 (L) := hS
 have Z2 := Z2.trans b3
 have a6 := a6.mono b3
 have a9 := a9.mono b3
 have c4 : ev e2 (.tmp 26) = Value.bool (!a7) := c8 9 26 (by decide) rfl
 refine Z1 ?_
 by_cases b0 : a7 = true
 rw [if_pos b0] at a4
 refine Z8 (Eq.trans (by exact c4) (congrArg (fun b => Value.bool (!b)) b0)) (Y7 (X2 (Z0 (Z4 (vI a3) (by exact (evT (b4 5 rfl) a5)) rfl ?_))))
 refine W8 (a3 + 1) rfl rfl (IntWalk.i64_in _ (by omega)) rfl (Z5 (vI (a3 + 1)) rfl rfl (Z1 ?_))
 exact e4 _ _ ⟨(a3 + 1), c3, a4, Z2, hS, (by omega), a6, a9, (evT (b4 0 rfl) a8), (evT (b4 1 rfl) b1), rfl⟩
 rw [if_neg b0] at a4
 refine Y0 (Eq.trans (by exact c4) (congrArg (fun b => Value.bool (!b)) (W1 b0))) (Z3 (Z0 (Z5 (Value.bool false) rfl rfl (Z1 ?_))))
 refine X0 (vs := [Value.bool false]) Tryz.func110 ⟨rfl, trivial⟩ ?_
 have hz := Option.some.inj a4
 subst hz
 dsimp only [Ex.elim] at b2
 have hz := Option.some.inj b2
 subst hz
 exact ⟨_, _, rfl, Z2, hS, rfl⟩
 rw [if_neg b8] at a4
 refine Z8 (bF b8 rfl) ?_
 refine W4 rfl ?_
 have hz := Option.some.inj a4
 subst hz
 exact e5 _ _ ⟨c9, rfl, Z2, hS⟩
 exact ⟨0, H, a4, Z2, hS, (by omega), a6, a9, rfl, rfl, rfl⟩
 rintro i2 i3 ⟨i4, rfl, Z2, hS⟩
 dsimp only [Ex.elim] at b2
 refine Z3 (Z0 (Z5 (Value.bool true) rfl rfl (Z1 ?_)))
 refine X0 (vs := [Value.bool true]) Tryz.func110 ⟨rfl, trivial⟩ ?_
 have hz := Option.some.inj b2
 subst hz
 exact ⟨_, _, rfl, Z2, hS, rfl⟩
 rw [if_neg b7] at q0
 refine Y0 (bO b7 rfl) (Z3 (Z0 (Z5 (Value.bool false) rfl rfl (Z1 ?_))))
 refine X0 (vs := [Value.bool false]) Tryz.func110 ⟨rfl, trivial⟩ ?_
 have hz := Option.some.inj q0
 subst hz
 exact ⟨_, _, rfl, Z2, hS, rfl⟩
def E0 (K : Nat) (a0 : (List Int)) (r5 : MpT) : Nat → Int → (List Int) → Option (Ex (List Int) ((List Int)))
 | 0, _, _ => none
 | k + 1, a3, a4 => (if a3 < (a0.length : Int) then ((F6 K a3).bind fun b6 => (if a4.length + ([(R2 r5 b6)]).length ≤ 1099511627776 then E0 K a0 r5 k (a3 + 1) (a4 ++ [(R2 r5 b6)]) else none)) else some (.go a4))
def Zm6 (K : Nat) (a0 : (List Int)) (a1 : MpT) : Option (List Int) := ((Zg3 K a1).bind fun r5 => ((E0 K a0 r5 K 0 ([] : List Int)).bind (Ex.elim (fun r => some r) (fun s => (fun (b0 : (List Int)) => some b0) s))))
theorem Yq6 {K : Nat} {a0 : (List Int)} {a1 : MpT} {r : (List Int)} (q0 : Zm6 K a0 a1 = some r) {H : FH} {w : World} {L : OL} {s0 : Value} {s1 : Value} (c4 : Y1 (Y6 .i64) H s0 a0) (b2 : Y1 yT H s1 a1) (hS : St H w L) :
 Calls Tryz.prog 280 #[s0, vA ([s1])] w (T2 (fun v G => (R.sl (Y6 .i64)).p G v r) H L) := by
 have Z2 := Sub.refl H
 refine X3 Tryz.func280 rfl Tryz.ntmps280 rfl ?_
 unfold Zm6 at q0
 refine Z3 (Z0 ?_)
 refine S4 (v := vA ([s1])) ([s1]).toArray rfl rfl hS rfl ?_
 intro b1 w2 hS
 refine Z5 (vN) rfl rfl (Z1 (Z3 (Z0 ?_)))
 refine W2 T1 rfl (hS.get mL) rfl rfl ?_
 obtain ⟨r5, d9, q0⟩ := bind_some q0
 refine Y9 Tryz.call90 (R0 rfl) rfl (Zp5 d9 b2 hS) ?_
 rintro e5 w6 ⟨m5, H5, C5, rfl, c6, hS, b4⟩
 refine ⟨_, rfl, ?_⟩
 have Z2 := Z2.trans c6
 have c4 := c4.mono c6
 have b2 := b2.mono c6
 refine Zx2 (τ := (Y6 .i64)) Q2 ze2 rfl hS rfl ?_
 intro u8 w9 e0 d0 hS
 refine Z5 (m5) rfl rfl (Z5 (u8) rfl rfl (Z1 (Z3 (Z3 (Z0 (Z4 (s0) rfl rfl ?_))))))
 have e6 := c4.bound
 refine W7 Q2 rfl c4 rfl (Z4 (vI 0) rfl rfl (Z1 (Y8 ?_)))
 obtain ⟨c7, a8, c8⟩ := bind_some q0
 refine W5 (id := 0) (fun k f w => ∃ (a3 : Int) (a4 : (List Int)) (H1 : FH) (a9 : OL) (a6 : Value), E0 K a0 r5 k a3 a4 = some c7 ∧ Sub H H1 ∧ St H1 w (a9 ++ (C5 ++ ([(b1, cA ([s1]) 47)] ++ L))) ∧ 0 ≤ a3 ∧ V0 (Y6 .i64) 2 H1 a6 a4 a9 ∧ Y1 yT H1 s1 a1 ∧ Q4 .i64 m5 r5 C5 ∧ ev f (.tmp 5) = m5 ∧ ev f (.tmp 6) = a6 ∧ ev f (.tmp 12) = vI (a0.length : Int) ∧ ev f (.tmp 13) = vI a3) (fun f w => ∃ (b0 : (List Int)) (H1 : FH) (b3 : OL) (a7 : Value), c7 = .go b0 ∧ Sub H H1 ∧ St H1 w (b3 ++ (C5 ++ ([(b1, cA ([s1]) 47)] ++ L))) ∧ V0 (Y6 .i64) 2 H1 a7 b0 b3 ∧ Y1 yT H1 s1 a1 ∧ Q4 .i64 m5 r5 C5 ∧ ev f (.tmp 6) = a7) rfl ?_ ?_ K ?_ ?_
 rintro f w ⟨a3, a4, H1, a9, a6, a8, _⟩
 rw [E0] at a8; cases a8
 rintro k e7 e8 e1 e2 ⟨a3, a4, d1, a9, a6, a8, Z2, hS, d8, a5, b2, b4, b8, b9, b7, b5⟩
 rw [E0] at a8
 refine Z3 (Z0 ?_)
 refine V7 (k := .i64) (a := a3) (b := (a0.length : Int)) (by exact b5) (by exact b7) rfl (Z1 (Z3 ?_))
 by_cases c0 : a3 < (a0.length : Int)
 rw [if_pos c0] at a8
 refine Y0 (bT c0 rfl) (Y7 (Z3 (Y8 (Z3 (Z0 (Z4 (vI a3) (by exact b5) rfl (Z5 (vI a3) rfl rfl (Z1 (Z0 (Z4 (a6) (by exact b9) rfl (Z4 (m5) (by exact b8) rfl (Z4 (vI a3) rfl rfl ?_))))))))))))
 obtain ⟨b6, d2, a8⟩ := bind_some a8
 refine Y9 Tryz.call151 (R0 rfl) rfl (Ze0 d2  hS) ?_
 rintro f2 f3 ⟨f4, f5, rfl, c1, hS, ⟨_, rfl, rfl⟩⟩
 refine ⟨_, rfl, ?_⟩
 have Z2 := Z2.trans c1
 have b2 := b2.mono c1
 have b4 := b4.mono c1
 have a5 := a5.mono c1
 have hS := hS.perm U1
 refine Yu7 (a := b6) Zh5 rfl rfl b4 hS rfl ?_
 have hS := hS.perm U1.symm
 refine Zd8 (τ := (Y6 .i64)) Q2 ze2 rfl [vI (R2 r5 b6)] [(R2 r5 b6)] rfl rfl (Za3 rfl) (Zn7 rfl) (by decide) (by decide) hS rfl ?_
 intro f6 e3 f7 c2 hS d3
 have Z2 := Z2.trans c2
 have b2 := b2.mono c2
 have b4 := b4.mono c2
 have a5 := a5.mono c2
 obtain ⟨d4, a8⟩ := gd a8
 refine F4 (τ := (Y6 .i64)) Xp4 rfl rfl rfl a5 hS d3 d4 rfl ?_
 intro c9 f8 e4 d5 hS
 refine Z5 (c9) rfl rfl (Z1 (X2 (Z0 ?_)))
 refine W8 (a3 + 1) (by exact b5) rfl (IntWalk.i64_in _ (by omega)) rfl (Z4 (vI (a3 + 1)) rfl rfl (Z1 ?_))
 exact e1 _ _ ⟨(a3 + 1), (a4 ++ [(R2 r5 b6)]), e3, e4, c9, a8, Z2, hS, (by omega), d5, b2, b4, b8, rfl, b7, rfl⟩
 rw [if_neg c0] at a8
 refine Z8 (bF c0 rfl) ?_
 refine W4 rfl ?_
 have hz := Option.some.inj a8
 subst hz
 exact e2 _ _ ⟨a4, d1, a9, a6, rfl, Z2, hS, a5, b2, b4, b9⟩
 exact ⟨0, ([] : List Int), H5, e0, u8, a8, Z2, hS, (by omega), d0, b2, b4, rfl, rfl, rfl, rfl⟩
 rintro e9 f0 ⟨b0, f1, b3, a7, rfl, Z2, hS, c3, b2, b4, c5⟩
 dsimp only [Ex.elim] at c8
 refine Z3 (Z0 (Z4 (a7) (by exact c5) rfl (Z5 (a7) rfl rfl (Z1 ?_))))
 refine X0 (vs := [a7]) Tryz.func280 ⟨rfl, trivial⟩ ?_
 obtain ⟨f9, d6, hS, d7⟩ := c3.freeze hS
 have Z2 := Z2.trans d6
 have hz := Option.some.inj c8
 subst hz
 exact ⟨_, _, rfl, Z2, (St.dropA (St.dropA hS)), d7⟩
def Zb1 (K : Nat) (a0 : MpT) : Nat → Int → MpT → Option (Ex MpT (MpT))
 | 0, _, _ => none
 | k + 1, a1, a3 => (if a1 < (a0.length : Int) then ((Zt6 K ((rd a0 a1).1, (rd a0 a1).2)).bind fun b3 => (if a1 < (a3.length : Int) then Zb1 K a0 k (a1 + 1) (a3.set (a1).toNat (b3.1, b3.2)) else none)) else some (.go a3))
def Zs0 (K : Nat) (a0 : MpT) : Option MpT := (if (a0.length : Int) ≤ 1099511627776 then ((Zb1 K a0 K 0 (List.replicate ((a0.length : Int)).toNat (((fun _ => 0), 0) : (A8 × Int)))).bind (Ex.elim (fun r => some r) (fun s => (fun (a8 : MpT) => some a8) s))) else none)
theorem Yx0 {K : Nat} {a0 : MpT} {r : MpT} (q0 : Zs0 K a0 = some r) {H : FH} {w : World} {L : OL} {s0 : Value} (b1 : Y1 yT H s0 a0) (hS : St H w L) :
 Calls Tryz.prog 108 #[s0] w (T2 (fun v G => (R.sl yT).p (G.new H) v r) H L) := by
 have Z2 := Sub.refl H
 refine X3 Tryz.func108 rfl Tryz.ntmps108 rfl ?_
 unfold Zs0 at q0
 refine Z3 (Z0 (Z5 (vN) rfl rfl (Z1 (Z3 (Z0 (Z4 (s0) rfl rfl ?_))))))
 have e6 := b1.bound
 refine W7 Wa4 rfl b1 rfl ?_
 obtain ⟨e7, q0⟩ := gd q0
 refine Xd4 (τ := yT) (((fun _ => 0), 0) : (A8 × Int)) Xg3 rfl rfl rfl (fun _ => ⟨_, _, rfl, rfl, rfl⟩) (by omega) (by omega) hS rfl ?_
 intro u3 w4 C5 d1 hS
 refine Z5 (u3) rfl rfl (Z1 (Z3 (Z3 (Z0 (Z5 (vI 0) rfl rfl (Z1 (Y8 ?_)))))))
 obtain ⟨c1, a6, c2⟩ := bind_some q0
 refine W5 (id := 0) (fun k f w => ∃ (a1 : Int) (a3 : MpT) (H1 : FH) (a9 : OL) (a4 : Value), Zb1 K a0 k a1 a3 = some c1 ∧ Sub H H1 ∧ St H1 w (a9 ++ L) ∧ 0 ≤ a1 ∧ V0 yT 76 H1 a4 a3 a9 ∧ Y1 yT H1 s0 a0 ∧ ev f (.tmp 0) = s0 ∧ ev f (.tmp 3) = a4 ∧ ev f (.tmp 4) = vI a1) (fun f w => ∃ (a8 : MpT) (H1 : FH) (b2 : OL) (a5 : Value), c1 = .go a8 ∧ Sub H H1 ∧ St H1 w (b2 ++ L) ∧ V0 yT 76 H1 a5 a8 b2 ∧ ev f (.tmp 3) = a5) rfl ?_ ?_ K ?_ ?_
 rintro f w ⟨a1, a3, H1, a9, a4, a6, _⟩
 rw [Zb1] at a6; cases a6
 rintro k d8 d9 d2 d3 ⟨a1, a3, c4, a9, a4, a6, Z2, hS, d4, a7, b1, b4, b5, b0⟩
 rw [Zb1] at a6
 refine Z3 (Z3 (Z0 (Z4 (vI a1) (by exact b0) rfl (Z4 (s0) (by exact b4) rfl ?_))))
 have e8 := b1.bound
 refine W7 Wa4 rfl b1 rfl ?_
 refine V7 (k := .i64) (a := a1) (b := (a0.length : Int)) rfl rfl rfl (Z1 ?_)
 by_cases b9 : a1 < (a0.length : Int)
 rw [if_pos b9] at a6
 refine Y0 (bT b9 rfl) (Y7 (Z3 (Y8 (Z0 (Z4 (a4) (by exact b5) rfl (Z4 (vI a1) (by exact b0) rfl (Z4 (s0) (by exact b4) rfl (Z4 (vI a1) (by exact b0) rfl ?_))))))))
 obtain ⟨e9, f0, e0, f1, _, c5, c6, ⟨_, _, rfl, rfl, rfl⟩, c7⟩ := b1.elem (i := a1) (by omega) (by omega)
 refine W3 Wa4 rfl rfl c5 rfl (by omega) (by omega) rfl ?_
 refine V6 (Z7 .u8 ((rd a0 a1).1) ++ [vI ((rd a0 a1).2)]) Wy8 rfl (hS.froz _ _ c6) rfl c7 rfl ?_
 obtain ⟨b3, c8, a6⟩ := bind_some a6
 refine Y9 Tryz.call200 (R0 rfl) rfl (Yy8 c8  hS) ?_
 rintro f2 f3 ⟨f4, d5, rfl, b8, hS, ⟨_, rfl, ⟨_, _, rfl, rfl, rfl⟩⟩⟩
 refine ⟨_, rfl, ?_⟩
 have Z2 := Z2.trans b8
 have b1 := b1.mono b8
 have a7 := a7.mono b8
 obtain ⟨e1, a6⟩ := gd a6
 obtain ⟨f5, f6, c3⟩ := a7.some (i := a1) (by omega) (by omega)
 refine Zs3 R5 (Eq.trans rfl c3) rfl (by omega) (by omega) rfl ?_
 refine Zs8 (τ := yT) (v := a4) (u := vA (Z7 .u8 b3.1 ++ [vI b3.2])) (b3.1, b3.2) (i := a1) rfl Zu2 c3 a7 hS rfl rfl (by omega) (by omega) ⟨_, _, rfl, rfl, rfl⟩ ?_
 intro f7 d6 c9 hS
 refine Z1 (X2 (Z0 (Z4 (vI a1) (by exact b0) rfl ?_)))
 refine W8 (a1 + 1) rfl rfl (IntWalk.i64_in _ (by omega)) rfl (Z5 (vI (a1 + 1)) rfl rfl (Z1 ?_))
 exact d2 _ _ ⟨(a1 + 1), (a3.set (a1).toNat (b3.1, b3.2)), d5, d6, a4, a6, Z2, hS, (by omega), c9, b1, b4, b5, rfl⟩
 rw [if_neg b9] at a6
 refine Z8 (bF b9 rfl) ?_
 refine W4 rfl ?_
 have hz := Option.some.inj a6
 subst hz
 exact d3 _ _ ⟨a3, c4, a9, a4, rfl, Z2, hS, a7, b5⟩
 exact ⟨0, (List.replicate ((a0.length : Int)).toNat (((fun _ => 0), 0) : (A8 × Int))), H, C5, u3, a6, Z2, hS, (by omega), d1, b1, rfl, rfl, rfl⟩
 rintro e2 e3 ⟨a8, e4, b2, a5, rfl, Z2, hS, b7, c0⟩
 dsimp only [Ex.elim] at c2
 refine Z3 (Z0 (Z4 (a5) (by exact c0) rfl (Z5 (a5) rfl rfl (Z1 ?_))))
 refine X0 (vs := [a5]) Tryz.func108 ⟨rfl, trivial⟩ ?_
 obtain ⟨d7, d0, hS, b6⟩ := V0.freezeF (τ := yT) (H0 := H) b7 hS Z2
 have e5 := Y1.old b6
 have b6 : RdF yT H d7 a5 a8 := b6
 have Z2 := Z2.trans d0
 have hz := Option.some.inj c2
 subst hz
 exact ⟨_, _, rfl, Z2, hS, b6⟩
def F5 (K : Nat) (a0 : (List Int)) (a1 : (List MpT)) : Nat → Int → Option (Ex ((List MpT) × Int) (Unit))
 | 0, _ => none
 | k + 1, a3 => (if a3 < (a1.length : Int) then ((Zm0 K a0 (rd a1 a3)).bind fun r4 => (if r4 = true then F5 K a0 a1 k (a3 + 1) else some (.ret (([] : List MpT), 3)))) else some (.go ()))
def Zh0 (K : Nat) (a0 : (List Int)) (a1 : (List MpT)) : Option ((List MpT) × Int) := ((F5 K a0 a1 K 0).bind (Ex.elim (fun r => some r) (fun s => some (a1, 0))))
theorem Yh5 {K : Nat} {a0 : (List Int)} {a1 : (List MpT)} {r : ((List MpT) × Int)} (q0 : Zh0 K a0 a1 = some r) {H : FH} {w : World} {L : OL} {s0 : Value} {s1 : Value} (a8 : Y1 (Y6 .i64) H s0 a0) (a5 : Y1 (X6 yT) H s1 a1) (hS : St H w L) :
 Calls Tryz.prog 173 #[s0, s1] w (T2 (fun v G => (R.t2 (R.sl (X6 yT)) (R.int .i64)).p G v r) H L) := by
 have Z2 := Sub.refl H
 refine X3 Tryz.func173 rfl Tryz.ntmps173 rfl ?_
 unfold Zh0 at q0
 refine Z3 (Z0 (Z5 (vN) rfl rfl (Z5 (vI 0) rfl rfl (Z1 (Z3 (Z3 (Z0 (Z5 (vI 0) rfl rfl (Z1 (Y8 ?_))))))))))
 obtain ⟨b5, a4, b0⟩ := bind_some q0
 refine W5 (id := 0) (fun k f w => ∃ (a3 : Int) (H1 : FH), F5 K a0 a1 k a3 = some b5 ∧ Sub H H1 ∧ St H1 w (L) ∧ 0 ≤ a3 ∧ Y1 (Y6 .i64) H1 s0 a0 ∧ Y1 (X6 yT) H1 s1 a1 ∧ ev f (.tmp 0) = s0 ∧ ev f (.tmp 1) = s1 ∧ ev f (.tmp 6) = vI a3) (fun f w => ∃ (H1 : FH), b5 = .go () ∧ Sub H H1 ∧ St H1 w (L) ∧ Y1 (X6 yT) H1 s1 a1 ∧ ev f (.tmp 1) = s1) rfl ?_ ?_ K ?_ ?_
 rintro f w ⟨a3, H1, a4, _⟩
 rw [F5] at a4; cases a4
 rintro k c7 c8 c0 c1 ⟨a3, b8, a4, Z2, hS, c2, a8, a5, a9, a6, a7⟩
 rw [F5] at a4
 refine Z3 (Z3 (Z0 (Z4 (vI a3) (by exact a7) rfl (Z4 (s1) (by exact a6) rfl ?_))))
 have d2 := a5.bound
 refine W7 I1 rfl a5 rfl ?_
 refine V7 (k := .i64) (a := a3) (b := (a1.length : Int)) rfl rfl rfl (Z1 ?_)
 by_cases b1 : a3 < (a1.length : Int)
 rw [if_pos b1] at a4
 refine Y0 (bT b1 rfl) (Y7 (Z3 (Y8 (Z3 (Z0 (Z4 (s0) (by exact a9) rfl (Z4 (s1) (by exact a6) rfl (Z4 (vI a3) (by exact a7) rfl ?_))))))))
 obtain ⟨b3, o3, d3, E3, _, c3, c4, ⟨b9, rfl, b7⟩, c5⟩ := a5.elem (i := a3) (by omega) (by omega)
 refine W3 I1 rfl rfl c3 rfl (by omega) (by omega) rfl ?_
 refine V6 ([b9]) T1 rfl (hS.froz _ _ c4) rfl c5 rfl ?_
 obtain ⟨r4, c6, a4⟩ := bind_some a4
 refine Y9 Tryz.call113 (U7 rfl rfl) rfl (Yi8 c6 a8 b7 hS) ?_
 rintro e4 w5 ⟨_, H4, rfl, b6, hS, rfl⟩
 refine ⟨_, rfl, ?_⟩
 have Z2 := Z2.trans b6
 have a8 := a8.mono b6
 have a5 := a5.mono b6
 refine M4 (b := r4) rfl rfl (Z1 ?_)
 by_cases b2 : r4 = true
 rw [if_pos b2] at a4
 refine Z8 (Eq.trans rfl (congrArg (fun b => Value.bool (!b)) b2)) (Y7 (X2 (Z0 (Z4 (vI a3) (by exact a7) rfl ?_))))
 refine W8 (a3 + 1) rfl rfl (IntWalk.i64_in _ (by omega)) rfl (Z5 (vI (a3 + 1)) rfl rfl (Z1 ?_))
 exact c0 _ _ ⟨(a3 + 1), H4, a4, Z2, hS, (by omega), a8, a5, a9, a6, rfl⟩
 rw [if_neg b2] at a4
 refine Y0 (Eq.trans rfl (congrArg (fun b => Value.bool (!b)) (W1 b2))) (Z3 (Z0 (Z5 (vN) rfl rfl (Z5 (vI 3) rfl rfl (Z1 ?_)))))
 refine X0 (vs := [vN, vI 3]) Tryz.func173 ⟨rfl, rfl, trivial⟩ ?_
 have hz := Option.some.inj a4
 subst hz
 dsimp only [Ex.elim] at b0
 have hz := Option.some.inj b0
 subst hz
 exact ⟨_, _, rfl, Z2, hS, ⟨_, _, rfl, Y1.nil, rfl⟩⟩
 rw [if_neg b1] at a4
 refine Z8 (bF b1 rfl) ?_
 refine W4 rfl ?_
 have hz := Option.some.inj a4
 subst hz
 exact c1 _ _ ⟨b8, rfl, Z2, hS, a5, a6⟩
 exact ⟨0, H, a4, Z2, hS, (by omega), a8, a5, rfl, rfl, rfl⟩
 rintro c9 d0 ⟨d1, rfl, Z2, hS, a5, b4⟩
 dsimp only [Ex.elim] at b0
 refine Z3 (Z0 (Z4 (s1) (by exact b4) rfl (Z5 (s1) rfl rfl (Z5 (vI 0) rfl rfl (Z1 ?_)))))
 refine X0 (vs := [s1, vI 0]) Tryz.func173 ⟨rfl, rfl, trivial⟩ ?_
 have hz := Option.some.inj b0
 subst hz
 exact ⟨_, _, rfl, Z2, hS, ⟨_, _, rfl, a5, rfl⟩⟩
def Zh6 (K : Nat) (a0 : Int) : Option MpT := (if 0 ≤ a0 then (if a0 < 8 then ((J5 K (S3 (fun _ => 0) a0 1) 1).bind fun a4 => some a4) else none) else none)
theorem Yk1 {K : Nat} {a0 : Int} {r : MpT} (q0 : Zh6 K a0 = some r) {H : FH} {w : World} {L : OL} (hS : St H w L) :
 Calls Tryz.prog 169 #[vI a0] w (T2 (fun v G => (R.agg (X6 yT)).p G v r) H L) := by
 have Z2 := Sub.refl H
 refine X3 Tryz.func169 rfl Tryz.ntmps169 rfl ?_
 unfold Zh6 at q0
 refine Z3 (Z0 ?_)
 refine V1 (z := vA ([vN])) ([vN]).toArray Zd2.zero rfl hS rfl ?_
 intro b1 w2 hS
 refine Z1 (Z3 (Z0 ?_))
 refine Q1 (vA (Z7 .u8 (fun _ => 0))) Xf7 rfl ?_
 refine V1 (z := vA (Z7 .u8 (fun _ => 0))) (Z7 .u8 (fun _ => 0)).toArray Yi6.zero rfl hS rfl ?_
 intro b4 w5 hS
 refine W0 (v := vA (Z7 .u8 (fun _ => 0))) (vs := (Z7 .u8 (fun _ => 0)).toArray) (cs := (Z7 .u8 (fun _ => 0)).toArray) N6 rfl rfl rfl hS rfl (S9 .u8 (fun _ => 0)) rfl ?_
 intro w7 hS
 refine Z1 (Z3 (Z0 (Z4 (vI a0) rfl rfl ?_)))
 obtain ⟨a7, q0⟩ := gd q0
 obtain ⟨a8, q0⟩ := gd q0
 refine V5 Zd3 rfl rfl (by omega) (by omega) rfl ?_
 refine Za5 (v := Value.int .u8 1) (cs := (Z7 .u8 (fun _ => 0)).toArray) (cs' := (Z7 .u8 (S3 (fun _ => 0) a0 1)).toArray) ty5 rfl rfl hS rfl (Zz4 rfl) (by simp [Z7, N7]; omega) (Zi5 (by omega) (by omega)) ?_
 intro a9 hS
 refine Z1 (Z3 (Z0 ?_))
 refine W2 N6 rfl (hS.get mL) rfl rfl ?_
 obtain ⟨a4, a5, q0⟩ := bind_some q0
 refine Y9 Tryz.call170 (U7 rfl rfl) rfl (Zi2 a5  hS) ?_
 rintro b0 b2 ⟨b3, b5, rfl, a6, hS, ⟨_, rfl, ⟨a1, rfl, a3⟩⟩⟩
 refine ⟨_, rfl, ?_⟩
 have Z2 := Z2.trans a6
 have hS := hS.perm U1
 refine W0 (v := vA ([a1])) (vs := ([a1]).toArray) (cs := ([vN]).toArray) T1 rfl rfl rfl hS rfl (T8 a3.isOne) rfl ?_
 intro b6 hS
 have hS := hS.perm U1.symm
 refine Z1 ?_
 refine X0 (vs := [vA ([a1])]) Tryz.func169 ⟨⟨_, rfl, U5 T1 (hS.get (mR mL)) rfl⟩, trivial⟩ ?_
 have hz := Option.some.inj q0
 subst hz
 exact ⟨_, _, rfl, Z2, (St.dropA (St.dropA hS)), ⟨_, rfl, ⟨_, rfl, a3⟩⟩⟩
end Go.Proofs.YtfodlhkoafhplaaGreat
