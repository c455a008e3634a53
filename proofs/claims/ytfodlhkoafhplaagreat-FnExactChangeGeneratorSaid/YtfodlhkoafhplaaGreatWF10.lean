/- Walks of functions: each computes its pure function, if that gives a value. -/
import Derived.Test.YtfodlhkoafhplaaGreatWF6
import Derived.Test.YtfodlhkoafhplaaGreatWTy
import Derived.Test.YtfodlhkoafhplaaGreatWF3
import Derived.Test.YtfodlhkoafhplaaGreatWF8
import Derived.Test.YtfodlhkoafhplaaGreatWF7
import Derived.Test.YtfodlhkoafhplaaGreatWF2
namespace Go.Proofs.YtfodlhkoafhplaaGreat
open Go
set_option linter.unusedSimpArgs false
set_option linter.unusedVariables false
set_option maxRecDepth 100000
set_option maxHeartbeats 8000000
instance : DecidableEq A8 := fun a b => decidable_of_iff _ (Zg2 (a := a) (b := b))
theorem Xg8 (K : Nat) (x : Int) : Zk5 K x = some (x % 10007) := by
 unfold Zk5
 have h1 : -10007 < x.tmod 10007 ∧ x.tmod 10007 < 10007 := by
  constructor
  have := Int.tmod_lt_of_pos (-x) (show (0 : Int) < 10007 by decide)
  rw [Int.neg_tmod] at this; omega
  exact Int.tmod_lt_of_pos x (by decide)
 rw [IntWalk.i64_in _ (by omega)]
 congr 1
 rw [Int.tmod_eq_emod_of_nonneg (by omega)]
 rw [Int.add_emod_right]
 rcases Int.emod_two_eq x with _ | _ <;> (rw [Int.tmod_eq_emod]; split <;> omega)
def Zp6 (s : MpT) (p : A8) (f : Int) : MpT := if (M5 s p + f) % 10007 = 0 then Zq8 s p else A9 s p ((M5 s p + f) % 10007)
theorem Yb6 {s : MpT} (h : nfm s = true) (a : A8) : 0 ≤ M5 s a ∧ M5 s a ≤ 10006 := by
 by_cases hm : a ∈ s.map Prod.fst
 obtain ⟨⟨b, x⟩, hp, rfl⟩ := List.mem_map.1 hm
 rw [Yj3 (Zz7 (P7 h)) hp]
 have := Zv4 h _ hp
 simp only at this ⊢; omega
 rw [Zn0 hm]; omega
theorem Yh7 {K : Nat} {s : MpT} {p : A8} {f : Int} (h : nfm s = true ∧ -4611686018427387904 ≤ f ∧ f ≤ 4611686018427387904) : T4 K s p f = some (Zp6 s p f) := by
 unfold T4 Zp6
 rw [if_pos h]
 have hb := Yb6 h.1 p
 rw [IntWalk.i64_in _ (by omega), Xg8]
 simp only [Option.bind_some]
 split <;> rfl
theorem Zy2 {s : MpT} {a : A8} {q : A8 × Int} : q ∈ Zq8 s a ↔ q ∈ s ∧ q.1 ≠ a := by
 unfold Zq8
 rw [List.mem_filter]
 constructor
 rintro ⟨h1, h2⟩
 refine ⟨h1, fun e => ?_⟩
 rw [e, Zg2.2 rfl] at h2; simp at h2
 rintro ⟨h1, h2⟩
 refine ⟨h1, ?_⟩
 cases e : eq8 a q.1 with
 | false => rfl
 | true => exact absurd (Zg2.1 e).symm h2
theorem Ye2 {s : MpT} {a : A8} {x : Int} {q : A8 × Int} : q ∈ A9 s a x ↔ q = (a, x) ∨ q ∈ s ∧ q.1 ≠ a := by
 unfold A9
 rw [(Zn5 _ _).mem_iff, List.mem_cons, Zy2]
theorem Ze3 {s : MpT} (h : nfm s = true) (p : A8) (f : Int) : nfm (Zp6 s p f) = true := by
 unfold Zp6
 split
 exact Ya0 (Ys5 (P7 h) p) (fun q hq => Zv4 h q (Zy2.1 hq).1)
 refine Ya0 (Yj5 (P7 h) p _) (fun q hq => ?_)
 rcases Ye2.1 hq with rfl | hq
 simp only; omega
 exact Zv4 h q hq.1
theorem Zt7 {s : MpT} (hs : Srt s) {a : A8} {x : Int} (h : (a, x) ∈ s) : M5 s a = x := Yj3 (Zz7 hs) h
theorem Zs9 {s : MpT} (h : nfm s = true) (p : A8) (f : Int) (a : A8) : M5 (Zp6 s p f) a = if a = p then (M5 s p + f) % 10007 else M5 s a := by
 have hs := P7 h
 have h' := P7 (Ze3 h p f)
 unfold Zp6 at h' ⊢
 split
 rename_i h0
 rw [if_pos h0] at h'
 by_cases e : a = p
 subst e
 rw [if_pos rfl, h0, Zn0]
 intro hm
 obtain ⟨q, hq, e⟩ := List.mem_map.1 hm
 exact (Zy2.1 hq).2 e
 rw [if_neg e]
 by_cases hm : a ∈ s.map Prod.fst
 obtain ⟨⟨b, x⟩, hq, rfl⟩ := List.mem_map.1 hm
 rw [Zt7 hs hq, Zt7 h' (Zy2.2 ⟨hq, e⟩)]
 rw [Zn0 hm, Zn0]
 intro hm'
 obtain ⟨q, hq, rfl⟩ := List.mem_map.1 hm'
 exact hm (List.mem_map.2 ⟨q, (Zy2.1 hq).1, rfl⟩)
 rename_i h0
 rw [if_neg h0] at h'
 by_cases e : a = p
 subst e
 rw [if_pos rfl, Zt7 h' (Ye2.2 (.inl rfl))]
 rw [if_neg e]
 by_cases hm : a ∈ s.map Prod.fst
 obtain ⟨⟨b, x⟩, hq, rfl⟩ := List.mem_map.1 hm
 rw [Zt7 hs hq, Zt7 h' (Ye2.2 (.inr ⟨hq, e⟩))]
 rw [Zn0 hm, Zn0]
 intro hm'
 obtain ⟨q, hq, rfl⟩ := List.mem_map.1 hm'
 rcases Ye2.1 hq with rfl | hq
 exact e rfl
 exact hm (List.mem_map.2 ⟨q, hq.1, rfl⟩)
/-- two sums in normal form are the same if they have the same factors -/
theorem Yx2 {s t : MpT} (hs : nfm s = true) (ht : nfm t = true) (h : ∀ a, M5 s a = M5 t a) : s = t := by
 have key : ∀ {s t : MpT}, nfm s = true → nfm t = true → (∀ a, M5 s a = M5 t a) → ∀ q, q ∈ s → q ∈ t := by
  intro s t hs ht h q hq
  have h1 := Zt7 (P7 hs) (a := q.1) (x := q.2) hq
  rw [h] at h1
  by_cases hm : q.1 ∈ t.map Prod.fst
  obtain ⟨⟨b, x⟩, hp, e⟩ := List.mem_map.1 hm
  simp only at e
  subst e
  rw [Zt7 (P7 ht) hp] at h1
  subst h1; exact hp
  rw [Zn0 hm] at h1
  have := Zv4 hs q hq
  omega
 refine Yv2 (P7 hs) (P7 ht) ?_
 refine (List.perm_ext_iff_of_nodup ?_ ?_).2 (fun q => ⟨key hs ht h q, key ht hs (fun a => (h a).symm) q⟩)
 exact List.Pairwise.of_map Prod.fst (fun a b hab e => hab (by rw [e])) (Zz7 (P7 hs))
 exact List.Pairwise.of_map Prod.fst (fun a b hab e => hab (by rw [e])) (Zz7 (P7 ht))
theorem Xr7 (K : Nat) (s : MpT) (p q : A8) (f g : Int) : (T4 K s p f).bind (fun s => T4 K s q g) = (T4 K s q g).bind (fun s => T4 K s p f) := by
 have hnone : ∀ (s : MpT) (p : A8) (f : Int), ¬ (nfm s = true ∧ -4611686018427387904 ≤ f ∧ f ≤ 4611686018427387904) → T4 K s p f = none := by
  intro s p f h
  unfold T4; rw [if_neg h]
 by_cases hs : nfm s = true
 case neg => rw [hnone s p f (fun h => hs h.1), hnone s q g (fun h => hs h.1)]; rfl
 by_cases hf : -4611686018427387904 ≤ f ∧ f ≤ 4611686018427387904
 case neg =>
  rw [hnone s p f (fun h => hf h.2)]
  cases h : T4 K s q g with
  | none => rfl
  | some t => simp [hnone t p f (fun h => hf h.2)]
 by_cases hg : -4611686018427387904 ≤ g ∧ g ≤ 4611686018427387904
 case neg =>
  rw [hnone s q g (fun h => hg h.2)]
  cases h : T4 K s p f with
  | none => rfl
  | some t => simp [hnone t q g (fun h => hg h.2)]
 rw [Yh7 ⟨hs, hf⟩, Yh7 ⟨hs, hg⟩]
 simp only [Option.bind_some]
 rw [Yh7 ⟨Ze3 hs p f, hg⟩, Yh7 ⟨Ze3 hs q g, hf⟩]
 congr 1
 refine Yx2 (Ze3 (Ze3 hs p f) q g) (Ze3 (Ze3 hs q g) p f) (fun a => ?_)
 rw [Zs9 (Ze3 hs p f), Zs9 (Ze3 hs q g), Zs9 hs, Zs9 hs, Zs9 hs, Zs9 hs]
 by_cases e1 : a = p
 by_cases e2 : a = q
 subst e1; subst e2
 simp only [if_true]
 omega
 rw [if_neg e2, if_pos e1, if_pos e1, if_neg (fun e => e2 (e1.trans e))]
 rw [if_neg e1, if_neg e1]
 by_cases e2 : a = q
 rw [if_pos e2, if_pos e2, if_neg (fun e => e1 (e2.trans e))]
 rw [if_neg e2, if_neg e2]
def M9 (K : Nat) : List (A8 × Int) → MpT → Option MpT
 | [], s => some s
 | o :: os, s => (T4 K s o.1 o.2).bind (M9 K os)
theorem Zz3 {K : Nat} : ∀ (xs ys : List (A8 × Int)) (s : MpT), M9 K (xs ++ ys) s = (M9 K xs s).bind (M9 K ys)
 | [], _, _ => rfl
 | x :: xs, ys, s => by
  show (T4 K s x.1 x.2).bind (M9 K (xs ++ ys)) = ((T4 K s x.1 x.2).bind (M9 K xs)).bind (M9 K ys)
  cases T4 K s x.1 x.2 with
  | none => rfl
  | some t => exact Zz3 xs ys t
theorem Xe4 {K : Nat} {xs ys : List (A8 × Int)} (hp : xs.Perm ys) : ∀ s, M9 K xs s = M9 K ys s := by
 induction hp with
 | nil => intro s; rfl
 | cons x _ ih =>
  intro s
  show (T4 K s x.1 x.2).bind _ = (T4 K s x.1 x.2).bind _
  congr 1; funext t; exact ih t
 | swap x y l =>
  intro s
  have h := congrArg (fun o => Option.bind o (M9 K l)) (Xr7 K s y.1 x.1 y.2 x.2)
  simp only [Option.bind_assoc] at h
  exact h
 | trans _ _ ih1 ih2 => intro s; rw [ih1, ih2]
/-- a step that adds terms, the same ones whatever the sum -/
def Zp1 (K : Nat) (A : MpT → Option MpT) : Prop := ∃ o : Option (List (A8 × Int)), ∀ s, A s = o.bind fun ops => M9 K ops s
def Zn3 (K : Nat) {ρ σ X : Type} (h : X → MpT → σ) (A : MpT → Option (Ex ρ σ)) : Prop := ∃ o : Option (List (A8 × Int) × X), ∀ s, A s = o.bind fun p => (M9 K p.1 s).map fun t => .go (h p.2 t)
section
variable {K : Nat} {A B : MpT → Option MpT} {ρ σ X : Type} {h : X → MpT → σ}
theorem Zp1.comm (hA : Zp1 K A) (hB : Zp1 K B) (s : MpT) : (A s).bind B = (B s).bind A := by
 obtain ⟨a, ha⟩ := hA
 obtain ⟨b, hb⟩ := hB
 have e1 : A = fun s => a.bind fun ops => M9 K ops s := funext ha
 have e2 : B = fun s => b.bind fun ops => M9 K ops s := funext hb
 subst e1; subst e2
 cases a with
 | none => cases b with
  | none => rfl
  | some y => simp only [Option.bind_none, Option.bind_some]; cases M9 K y s <;> rfl
 | some x => cases b with
  | none => simp only [Option.bind_none, Option.bind_some]; cases M9 K x s <;> rfl
  | some y =>
   simp only [Option.bind_some]
   show (M9 K x s).bind (M9 K y) = (M9 K y s).bind (M9 K x)
   rw [← Zz3, ← Zz3]
   exact Xe4 List.perm_append_comm s
theorem Zp1.skip : Zp1 K (fun s => some s) := ⟨some [], fun _ => rfl⟩
theorem Zp1.fail : Zp1 K (fun _ => none) := ⟨none, fun _ => rfl⟩
theorem Zp1.add (p : A8) (f : Int) : Zp1 K (fun s => T4 K s p f) := ⟨some [(p, f)], fun s => by simp [M9]⟩
theorem Zp1.const {β : Type} {c : Option β} {B : β → MpT → Option MpT} (hB : ∀ r, Zp1 K (B r)) : Zp1 K (fun s => c.bind fun r => B r s) := by
 cases c with
 | none => exact .fail
 | some r => exact hB r
theorem Zp1.ite {c : Prop} [Decidable c] (hA : Zp1 K A) (hB : Zp1 K B) : Zp1 K (fun s => if c then A s else B s) := by
 by_cases hc : c
 simp only [if_pos hc]; exact hA
 simp only [if_neg hc]; exact hB
theorem Zn3.go (x : X) : Zn3 K (ρ := ρ) h (fun s => some (.go (h x s))) := ⟨some ([], x), fun _ => rfl⟩
theorem Zn3.fail : Zn3 K (ρ := ρ) h (fun _ => none) := ⟨none, fun _ => rfl⟩
theorem Zn3.bind {B : MpT → Option (Ex ρ σ)} (hA : Zp1 K A) (hB : Zn3 K h B) : Zn3 K h (fun s => (A s).bind B) := by
 obtain ⟨a, ha⟩ := hA
 obtain ⟨b, hb⟩ := hB
 have e1 : A = fun s => a.bind fun ops => M9 K ops s := funext ha
 have e2 : B = fun s => b.bind fun p => (M9 K p.1 s).map fun t => .go (h p.2 t) := funext hb
 subst e1; subst e2
 cases a with
 | none => exact .fail
 | some x => cases b with
  | none => exact ⟨none, fun s => by simp only [Option.bind_none, Option.bind_some]; cases M9 K x s <;> rfl⟩
  | some y =>
   refine ⟨some (x ++ y.1, y.2), fun s => ?_⟩
   simp only [Option.bind_some]
   rw [Zz3]
   cases M9 K x s <;> rfl
theorem Zn3.const {β : Type} {c : Option β} {B : β → MpT → Option (Ex ρ σ)} (hB : ∀ r, Zn3 K h (B r)) : Zn3 K h (fun s => c.bind fun r => B r s) := by
 cases c with
 | none => exact .fail
 | some r => exact hB r
theorem Zn3.ite {c : Prop} [Decidable c] {A B : MpT → Option (Ex ρ σ)} (hA : Zn3 K h A) (hB : Zn3 K h B) : Zn3 K h (fun s => if c then A s else B s) := by
 by_cases hc : c
 simp only [if_pos hc]; exact hA
 simp only [if_neg hc]; exact hB
/-- what such a loop gives, handed on -/
theorem Zn3.step {A : MpT → Option (Ex ρ σ)} (hA : Zn3 K h A) (pr : σ → MpT) (hp : ∀ x s, pr (h x s) = s) :
 ∃ F, Zp1 K F ∧ ∀ {τ : Type} (R : ρ → Option τ) (C : MpT → Option τ) (s : MpT), (A s).bind (Ex.elim R fun y => C (pr y)) = (F s).bind C := by
 obtain ⟨a, ha⟩ := hA
 refine ⟨fun s => a.bind fun p => M9 K p.1 s, ?_, fun R C s => ?_⟩
 cases a with
 | none => exact .fail
 | some p => exact ⟨some p.1, fun _ => rfl⟩
 rw [ha]
 cases a with
 | none => rfl
 | some p =>
  simp only [Option.bind_some]
  cases M9 K p.1 s with
  | none => rfl
  | some t =>
   show C (pr (h p.2 t)) = C t
   rw [hp]
theorem Zz4 (L : Nat → MpT → MpT → Option (Ex ρ σ)) (h0 : ∀ zs s, L 0 zs s = none) (hF : ∀ z, ∃ F, Zp1 K F ∧ ∀ k zs s, L (k + 1) (z :: zs) s = (F s).bind (L k zs)) {zp zq : MpT} (hp : zp.Perm zq) :
 ∀ k s, L k zp s = L k zq s := by
 induction hp with
 | nil => intro k s; rfl
 | cons z _ ih =>
  intro k s
  cases k with
  | zero => rw [h0, h0]
  | succ k =>
   obtain ⟨F, _, hc⟩ := hF z
   rw [hc, hc]
   congr 1; funext t; exact ih k t
 | swap x y l =>
  intro k s
  obtain ⟨Fx, ax, hx⟩ := hF x
  obtain ⟨Fy, ay, hy⟩ := hF y
  cases k with
  | zero => rw [h0, h0]
  | succ k =>
   rw [hx, hy]
   cases k with
   | zero =>
    have e1 : L 0 (x :: l) = fun _ => none := funext fun s => h0 _ s
    have e2 : L 0 (y :: l) = fun _ => none := funext fun s => h0 _ s
    rw [e1, e2]
    cases Fx s <;> cases Fy s <;> rfl
   | succ k =>
    have e1 : L (k + 1) (x :: l) = fun s => (Fx s).bind (L k l) := funext fun s => hx k l s
    have e2 : L (k + 1) (y :: l) = fun s => (Fy s).bind (L k l) := funext fun s => hy k l s
    rw [e1, e2]
    have := congrArg (fun o => Option.bind o (L k l)) (ay.comm ax s)
    simp only [Option.bind_assoc] at this
    exact this
 | trans _ _ ih1 ih2 => intro k s; rw [ih1, ih2]
end
-- impl_power_compare
def Ym1 (xs : MpT) : Bool := xs.all fun p => (l8 p.1).all fun x => decide (0 ≤ x ∧ x ≤ 2305843009213693952)
def Zn8 (K : Nat) (a0 : MpT) : Option (List A8) := if Ym1 a0 = true ∧ a0.length < K ∧ a0.length ≤ 1000000000 then some (a0.map Prod.fst) else none
theorem Xu6 {xs : MpT} (h : Ym1 xs = true) : ∀ a, a ∈ xs.map Prod.fst → ∀ i, 0 ≤ a i ∧ a i ≤ 2305843009213693952 := by
  intro a ha i
  obtain ⟨p, hp, rfl⟩ := List.mem_map.1 ha
  have h1 := List.all_eq_true.1 (List.all_eq_true.1 h p hp)
  have : ∀ x, x ∈ l8 p.1 → 0 ≤ x ∧ x ≤ 2305843009213693952 := fun x hx => by simpa using h1 x hx
  apply this
  unfold l8
  match i with
  | 0 | 1 | 2 | 3 | 4 | 5 | 6 | 7 => simp
theorem We9 {xs : MpT} (hs : Srt xs) {ys : List A8} (hp : ys.Perm (xs.map Prod.fst)) (hy : ys.Pairwise fun p q => bef p q = true) : ys = xs.map Prod.fst := by
  have h1 : Srt (ys.map fun a => (a, (0 : Int))) := by
    unfold Srt
    rw [List.pairwise_map]; exact hy
  have h2 : Srt ((xs.map Prod.fst).map fun a => (a, (0 : Int))) := by
    unfold Srt
    rw [List.map_map, List.pairwise_map]; exact hs
  have h3 := congrArg (List.map Prod.fst) (Yv2 h1 h2 (hp.map _))
  simpa [List.map_map, Function.comp_def] using h3
def Yi5 (H : FH) (v : Value) (xs : List A8) (C : OL) : Prop := ∃ b c cs, v = .slice (some ⟨b, 0, none⟩) xs.length c ∧ xs.length ≤ c ∧ c ≤ maxLen ∧ cs.size = c * 8 ∧ C = [(b, .cells cs 188)] ∧
    ∀ i x, xs[i]? = some x → ∀ j, j < 8 → cs[i * 8 + j]? = (Z7 .i64 x)[j]?
theorem Yi5.of {H : FH} {v : Value} {xs : List A8} {C : OL} (h : U1 (Zo6 .i64) 188 H v xs C) (hn : xs ≠ []) : Yi5 H v xs C := by
  rcases h with ⟨_, h, _⟩ | ⟨b, c, cs, h1, h2, h3, h4, h5, h6⟩
  · exact absurd h hn
  · refine ⟨b, c, cs, h1, h2, h3, h4, h5, fun i x hx j hj => ?_⟩
    obtain ⟨ecs, hr, hj'⟩ := h6 i x hx
    have hr : ecs = Z7 .i64 x := hr
    subst hr
    exact hj' j hj
theorem Wf1 {n : Nat} {f : Fr} {w : World} {H : FH} {L : OL} {ops : Array Oper} {J : Fr → World → Prop} {r : List Oper} {T : TypeId} {d : Nat} {pos : String} {af : Array Edge} (hS : St H w L) (hn : Nat.blt d n = true)
    (K : ∀ u w' C', U1 (Zo6 .i64) 188 H u [] C' → Yi5 H u [] C' → St H w' (C' ++ L) → W5 Tryz.prog n ops J r (upd f d u) w') : W5 Tryz.prog n ops J (⟨some d, .buildSlice 120 0 #[], T, pos, af, none⟩ :: r) f w := by
  have hrun := Zy8 (P := Tryz.prog) (w := w) Xd9 Zl0 [] rfl (by simp) (by simp)
  refine T3 (v := .slice (some ⟨w.heap.size, 0, none⟩) 0 0) (w' := w.alloc (.cells #[] 188)) rfl rfl hn (by have h := hrun; simp only [execOp]; exact C2 (by simpa using h))
    (K _ _ [(w.heap.size, .cells #[] 188)] (.inr ⟨w.heap.size, 0, #[], rfl, by simp, by simp [maxLen], by simp, rfl, by simp⟩) ⟨w.heap.size, 0, #[], rfl, by simp, by simp [maxLen], by simp, rfl, by simp⟩ (hS.alloc _))
theorem Yi3 {K : Nat} {a0 : MpT} {r : List A8} (q0 : Zn8 K a0 = some r) {H : FH} {w : World} {L : OL} {s0 : Value} (hs0 : Q1 .i64 H s0 a0) (hS : St H w L) :
    Calls Tryz.prog 177 #[s0] w (T6 (fun v G => (R.sl (Zo6 .i64)).p G v r) H L) := by
  have Z2 := Sub.refl H
  refine X0 Tryz.func177 rfl Tryz.ntmps177 rfl ?_
  unfold Zn8 at q0
  by_cases hg : Ym1 a0 = true ∧ a0.length < K ∧ a0.length ≤ 1000000000
  case neg => rw [if_neg hg] at q0; cases q0
  rw [if_pos hg] at q0
  obtain ⟨hok, hK, hlen⟩ := hg
  cases q0
  refine Z3 ?_
  refine Z1 ?_
  refine Z6 (Value.slice none 0 0) rfl rfl ?_
  refine Z0 ?_
  refine Z3 ?_
  refine Z1 ?_
  refine Wf1 hS rfl ?_
  intro u1 w2 C3 ho4 hnb0 hS
  have hS : St H w2 (C3 ++ L) := hS
  refine Z6 (u1) rfl rfl ?_
  refine Z0 ?_
  refine Z3 ?_
  refine Z3 ?_
  refine Z1 ?_
  refine Z4 (s0) rfl rfl ?_
  refine Yc1 Zm8 rfl hs0 hS rfl ?_
  intro it6 w7 C8 ho9 hS
  have hS : St H w7 (C8 ++ (C3 ++ L)) := hS
  refine Z0 ?_
  refine Y7 ?_
  refine W7 (id := 0) (fun k f w => ∃ (x0_own10 : MpT) (x0_own5 : (List A8)) (H1 : FH) (Cx0_own10 : OL) (Cx0_own5 : OL) (ux0_own5 : Value), ((x0_own5 ++ x0_own10.map Prod.fst).Perm (a0.map Prod.fst) ∧ x0_own10.length < k ∧ (x0_own5 = [] → Yi5 H1 ux0_own5 x0_own5 Cx0_own5)) ∧ Sub H H1 ∧ St H1 w (Cx0_own10 ++ (Cx0_own5 ++ L)) ∧ Zc7 .i64 H1 it6 x0_own10 none Cx0_own10 ∧ U1 (Zo6 .i64) 188 H1 ux0_own5 x0_own5 Cx0_own5 ∧ ev f (.tmp 3) = ux0_own5 ∧ ev f (.tmp 7) = it6) (fun f w => ∃ (y0_own5 : (List A8)) (H1 : FH) (Cy0_own10 : OL) (Cy0_own5 : OL) (uy0_own5 : Value), (y0_own5.Perm (a0.map Prod.fst) ∧ Yi5 H1 uy0_own5 y0_own5 Cy0_own5) ∧ Sub H H1 ∧ St H1 w (Cy0_own10 ++ (Cy0_own5 ++ L)) ∧ Zc7 .i64 H1 it6 ([] : MpT) none Cy0_own10 ∧ U1 (Zo6 .i64) 188 H1 uy0_own5 y0_own5 Cy0_own5 ∧ ev f (.tmp 3) = uy0_own5) rfl ?_ ?_ K ?_ ?_
  · rintro f w ⟨x0_own10, x0_own5, H1, Cx0_own10, Cx0_own5, ux0_own5, ⟨_, hk, _⟩, _⟩
    omega
  · rintro k f1_0 w1_0 ih0 hx0 ⟨x0_own10, x0_own5, H1_0, Cx0_own10, Cx0_own5, ux0_own5, ⟨hpm, hk, hnb⟩, Z2, hS, hox0_own10, hox0_own5, ff1_0_3, ff1_0_7⟩
    refine Z3 ?_
    refine Z1 ?_
    refine Yh0 (by exact ff1_0_7) hox0_own10 hS rfl ?_ ?_
    · intro hr11; subst hr11
      refine U3 (Value.bool false) rfl rfl rfl ?_
      refine Z0 ?_
      refine Z3 ?_
      refine Z9 rfl ?_
      refine W4 rfl ?_
      have hnb' : Yi5 H1_0 ux0_own5 x0_own5 Cx0_own5 := by
        by_cases h : x0_own5 = []
        · exact hnb h
        · exact Yi5.of hox0_own5 h
      exact hx0 _ _ ⟨x0_own5, H1_0, Cx0_own10, Cx0_own5, ux0_own5, ⟨by simpa using hpm, hnb'⟩, Z2, hS, hox0_own10, hox0_own5, ff1_0_3⟩
    · intro z12 zr13 w14 C15 hp16 hi17 hS
      have hS : St H1_0 w14 (C15 ++ (Cx0_own5 ++ L)) := hS
      have hlz := hp16.length_eq
      rw [List.length_cons] at hlz
      have hpm2 : ((x0_own5 ++ [z12.1]) ++ zr13.map Prod.fst).Perm (a0.map Prod.fst) := by
        refine List.Perm.trans ?_ hpm
        rw [List.append_assoc]
        refine List.Perm.append_left _ ?_
        exact (hp16.map Prod.fst).symm
      have hll := hpm.length_eq
      rw [List.length_append, List.length_map, List.length_map] at hll
      refine U3 (Value.bool true) rfl rfl rfl ?_
      refine Z0 ?_
      refine Z3 ?_
      refine Y0 rfl ?_
      refine Y6 ?_
      refine Y7 ?_
      refine Z3 ?_
      refine Z1 ?_
      refine Yc3 (by exact ff1_0_7) hi17 hS rfl ?_
      refine U3 (Value.agg (Z7 .i64 z12.1).toArray) rfl rfl rfl ?_
      refine W9 (z := Value.agg (Z7 .i64 (fun _ => 0)).toArray) (Z7 .i64 (fun _ => 0)).toArray Zl0.zero rfl hS rfl ?_
      intro b18 w19 hS
      have hS : St H1_0 w19 ([(b18, .cells (Z7 .i64 (fun _ => 0)).toArray 188)] ++ (C15 ++ (Cx0_own5 ++ L))) := hS
      refine W1 (v := Value.agg (Z7 .i64 z12.1).toArray) (vs := (Z7 .i64 z12.1).toArray) (cs := (Z7 .i64 (fun _ => 0)).toArray) N2 rfl rfl rfl hS rfl (S8 .i64 z12.1) rfl ?_
      intro w21 hS
      have hS : St H1_0 w21 ([(b18, .cells (Z7 .i64 z12.1).toArray 188)] ++ (C15 ++ (Cx0_own5 ++ L))) := hS
      refine Z0 ?_
      refine Z1 ?_
      refine Z4 (ux0_own5) (by exact ff1_0_3) rfl ?_
      refine X8 N2 rfl (hS.own (b18, .cells (Z7 .i64 z12.1).toArray 188) (List.mem_append_left _ (List.mem_singleton.2 rfl))) rfl rfl ?_
      refine Zn7 (τ := (Zo6 .i64)) Xd9 Zl0 rfl [Value.agg (Z7 .i64 z12.1).toArray] [z12.1] rfl rfl (Ze0 rfl) (Zu5 rfl) (by decide) (by decide) hS rfl ?_
      intro u22 H23 w24 sb25 hS hl26
      have Z2 := Z2.trans sb25
      have hox0_own5 := hox0_own5.mono sb25
      have hi17 := hi17.mono sb25
      have hS : St H23 w24 ([(b18, .cells (Z7 .i64 z12.1).toArray 188)] ++ (C15 ++ (Cx0_own5 ++ L))) := hS
      have hg27 : x0_own5.length + ([z12.1]).length ≤ 1099511627776 := by simp; omega
      have hS : St H23 w24 (Cx0_own5 ++ ([(b18, .cells (Z7 .i64 z12.1).toArray 188)] ++ (C15 ++ L))) := hS.perm (F3 (A1 := [(b18, .cells (Z7 .i64 z12.1).toArray 188)]) (A2 := C15))
      refine Zd1 (τ := (Zo6 .i64)) Wk2 rfl rfl rfl hox0_own5 hS hl26 hg27 rfl ?_
      intro u28 w29 C30 ho31 hS
      have hS : St H23 w29 (C30 ++ ([(b18, .cells (Z7 .i64 z12.1).toArray 188)] ++ (C15 ++ L))) := hS
      have hS : St H23 w29 ([(b18, .cells (Z7 .i64 z12.1).toArray 188)] ++ (C15 ++ (C30 ++ L))) := hS.perm (F3 (A1 := [(b18, .cells (Z7 .i64 z12.1).toArray 188)]) (A2 := C15)).symm
      refine Z6 (u28) rfl rfl ?_
      refine Z0 ?_
      refine X2 ?_
      have hS := St.dropA (A := [(b18, .cells (Z7 .i64 z12.1).toArray 188)]) hS
      exact ih0 _ _ ⟨zr13, (x0_own5 ++ [z12.1]), H23, C15, C30, u28, ⟨hpm2, by omega, fun h => absurd h (by simp)⟩, Z2, hS, hi17.drop, ho31, rfl, ff1_0_7⟩
  · exact ⟨a0, ([] : List A8), H, C8, C3, u1, ⟨by simp, hK, fun _ => hnb0⟩, Z2, hS, ho9, ho4, rfl, rfl⟩
  · rintro f2_0 w2_0 ⟨y0_own5, H2_0, Cy0_own10, Cy0_own5, uy0_own5, ⟨hpm, hnb⟩, Z2, hS, hoy0_own10, hoy0_own5, ff2_0_3⟩
    obtain ⟨b, c, cs, rfl, h2, h3, h4, rfl, h6⟩ := hnb
    refine Z3 ?_
    refine Z1 ?_
    refine Z4 _ (by exact ff2_0_3) rfl ?_
    have hS := hS.dropA
    have hll := hpm.length_eq
    rw [List.length_map] at hll
    have hnd : y0_own5.Nodup := hpm.nodup_iff.2 (Zz7 hs0.srt)
    refine Y8 (vs := #[.slice (some ⟨b, 0, none⟩) y0_own5.length c, .func (.func 221) #[] #[]]) Tryz.call253 (T0 rfl rfl) rfl (We2 h2 h3 h4 h6 hS (fun a ha => Xu6 hok a (hpm.mem_iff.1 ha)) (by omega) hnd) ?_
    rintro e3 w3 ⟨rfl, ys, C4, hp5, hsr, hS, ho5⟩
    refine ⟨_, rfl, ?_⟩
    refine Z0 ?_
    refine Z3 ?_
    refine Z1 ?_
    refine Z4 _ (by exact ff2_0_3) rfl ?_
    refine Z6 _ rfl rfl ?_
    refine Z0 ?_
    refine Y9 (vs := [.slice (some ⟨b, 0, none⟩) y0_own5.length c]) Tryz.func177 ⟨rfl, trivial⟩ ?_
    obtain ⟨H32, sb33, hS, hf34⟩ := ho5.freeze hS
    have Z2 := Z2.trans sb33
    have he := We9 hs0.srt (hp5.trans hpm) hsr
    rw [he] at hf34
    exact ⟨_, _, rfl, Z2, hS, hf34⟩
def K9 (K : Nat) (a0 : MpT) (a1 : MpT) : Nat → Int → Option (Ex Bool (Unit))
 | 0, _ => none
 | k + 1, a3 => (if a3 < (a0.length : Int) then (if a3 < (a1.length : Int) then ((Zq4 K ((rd a0 a3).1, (rd a0 a3).2) ((rd a1 a3).1, (rd a1 a3).2)).bind fun a7 => (if a7 = true then K9 K a0 a1 k (a3 + 1) else some (.ret false))) else none) else some (.go ()))
def Zo8 (K : Nat) (a0 : MpT) (a1 : MpT) : Option Bool := (if (a0.length : Int) = (a1.length : Int) then ((K9 K a0 a1 K 0).bind (Ex.elim (fun r => some r) (fun s => some true))) else some false)
theorem Yr1 {K : Nat} {a0 : MpT} {a1 : MpT} {r : Bool} (q0 : Zo8 K a0 a1 = some r) {H : FH} {w : World} {L : OL} {s0 : Value} {s1 : Value} (a6 : Y3 yT H s0 a0) (a9 : Y3 yT H s1 a1) (hS : St H w L) :
 Calls Tryz.prog 110 #[s0, s1] w (T6 (fun v G => R.bool.p G v r) H L) := by
 have Z2 := Sub.refl H
 refine X0 Tryz.func110 rfl Tryz.ntmps110 rfl ?_
 unfold Zo8 at q0
 refine Z3 (Z1 (Z6 (Value.bool false) rfl rfl (Z0 (Z3 (Z3 (Z1 (Z4 (s0) rfl rfl ?_)))))))
 have i5 := a6.bound
 refine W6 S9 rfl a6 rfl (Z4 (s1) rfl rfl ?_)
 have i6 := a9.bound
 refine W6 S9 rfl a9 rfl ?_
 refine L9 (k := .i64) (a := (a0.length : Int)) (b := (a1.length : Int)) rfl rfl rfl (Z0 ?_)
 by_cases b7 : (a0.length : Int) = (a1.length : Int)
 rw [if_pos b7] at q0
 refine Z9 (bN b7 rfl) (Y6 (Z3 (Z3 (Z1 (Z6 (vI 0) rfl rfl (Z0 (Y7 ?_)))))))
 obtain ⟨b9, a4, b2⟩ := bind_some q0
 refine W7 (id := 0) (fun k f w => ∃ (a3 : Int) (H1 : FH), K9 K a0 a1 k a3 = some b9 ∧ Sub H H1 ∧ St H1 w (L) ∧ 0 ≤ a3 ∧ Y3 yT H1 s0 a0 ∧ Y3 yT H1 s1 a1 ∧ ev f (.tmp 0) = s0 ∧ ev f (.tmp 1) = s1 ∧ ev f (.tmp 5) = vI a3) (fun f w => ∃ (H1 : FH), b9 = .go () ∧ Sub H H1 ∧ St H1 w (L)) rfl ?_ ?_ K ?_ ?_
 rintro f w ⟨a3, H1, a4, _⟩
 rw [K9] at a4; cases a4
 rintro k f3 f4 e4 e5 ⟨a3, c9, a4, Z2, hS, e6, a6, a9, a8, b1, a5⟩
 rw [K9] at a4
 refine Z3 (Z3 (Z1 (Z4 (vI a3) (by exact a5) rfl (Z4 (s0) (by exact a8) rfl ?_))))
 have i7 := a6.bound
 refine W6 S9 rfl a6 rfl ?_
 refine U5 (k := .i64) (a := a3) (b := (a0.length : Int)) rfl rfl rfl (Z0 ?_)
 by_cases b8 : a3 < (a0.length : Int)
 rw [if_pos b8] at a4
 refine Y0 (bT b8 rfl) (Y6 (Z3 (Y7 (Z3 ?_))))
 obtain ⟨e7, e8, f5, i8, _, d0, b5, ⟨_, _, rfl, rfl, rfl⟩, d1⟩ := a6.elem (i := a3) (by omega) (by omega)
 obtain ⟨f7, a4⟩ := gd a4
 obtain ⟨e9, f0, f8, i9, _, d2, b6, ⟨_, _, rfl, rfl, rfl⟩, d3⟩ := a9.elem (i := a3) (by omega) (by omega)
 obtain ⟨a7, c5, a4⟩ := bind_some a4
 refine V4 10 (R9 [(17, MP.eq (s0)), (18, MP.eq (vI a3)), (19, MP.eq (Value.pointer (some ⟨e7, e8, none⟩))), (20, MP.eq (vA (Z7 .u8 ((rd a0 a3).1) ++ [vI ((rd a0 a3).2)]))), (21, MP.eq (s1)), (22, MP.eq (vI a3)), (23, MP.eq (Value.pointer (some ⟨e9, f0, none⟩))), (24, MP.eq (vA (Z7 .u8 ((rd a1 a3).1) ++ [vI ((rd a1 a3).2)]))), (25, MP.eq (Value.bool a7)), (26, MP.eq (Value.bool (!a7)))]) [] mixed rfl rfl rfl hS (Z5 rfl ?_ (Z5 rfl ?_ (Z5 rfl ?_ (Z5 rfl ?_ (Z5 rfl ?_ (Z5 rfl ?_ (Z5 rfl ?_ (Z5 rfl ?_ (Z5 rfl ?_ (Z5 rfl ?_ V9)))))))))) ?_
 intro f6 w7 H8 X9 f9 hS d4 g0 hcq
 refine Z4 (s0) (evT (d4 0 rfl) a8) rfl ?_
 exact qn (.refl _) rfl hS rfl
 intro j0 j1 j2 j3 g1 hS d5 g2 hcq
 refine Z4 (vI a3) (evT (d5 5 rfl) a5) rfl ?_
 exact qn (.refl _) rfl hS rfl
 intro j4 j5 j6 j7 g3 hS g4 c0 hcq
 refine W3 S9 rfl (eM (c0 0 17 rfl rfl)) d0 (eM (c0 1 18 rfl rfl)) (by omega) (by omega) rfl ?_
 exact qn (.refl _) rfl hS rfl
 intro j8 j9 k0 k1 d6 hS g5 d7 hcq
 have b5 := d6.1 _ _ b5
 refine V5 (Z7 .u8 ((rd a0 a3).1) ++ [vI ((rd a0 a3).2)]) Zs8 (eM (d7 2 19 rfl rfl)) (hS.froz _ _ b5) rfl d1 rfl ?_
 exact qn (.refl _) rfl hS rfl
 intro k2 k3 k4 k5 g6 hS d8 g7 hcq
 refine Z4 (s1) (evT (d8 1 rfl) b1) rfl ?_
 exact qn (.refl _) rfl hS rfl
 intro k6 k7 k8 k9 g8 hS d9 g9 hcq
 refine Z4 (vI a3) (evT (d9 5 rfl) a5) rfl ?_
 exact qn (.refl _) rfl hS rfl
 intro l0 l1 l2 l3 h0 hS h1 c1 hcq
 refine W3 S9 rfl (eM (c1 4 21 rfl rfl)) d2 (eM (c1 5 22 rfl rfl)) (by omega) (by omega) rfl ?_
 exact qn (.refl _) rfl hS rfl
 intro l4 l5 l6 l7 e0 hS h2 e1 hcq
 have b6 := e0.1 _ _ b6
 refine V5 (Z7 .u8 ((rd a1 a3).1) ++ [vI ((rd a1 a3).2)]) Zs8 (eM (e1 6 23 rfl rfl)) (hS.froz _ _ b6) rfl d3 rfl ?_
 exact qn (.refl _) rfl hS rfl
 intro l9 m0 m1 m2 h3 hS h4 c2 hcq
 refine Y8 Tryz.call201 (T0 (eM (c2 3 20 rfl rfl)) (eM (c2 7 24 rfl rfl))) rfl (Yu5 c5  hS) ?_
 rintro h5 h6 ⟨_, h7, rfl, c6, hS, rfl⟩
 refine ⟨_, rfl, ?_⟩
 exact qn c6 rfl hS rfl
 intro h8 h9 i0 i1 f1 hS f2 c7 hcq
 refine N7 (b := a7) (eM (c7 8 25 rfl rfl)) rfl ?_
 exact qn (.refl _) rfl hS rfl
 intro e2 e3 c3 b3 hS b4 c8 hcq
 have hS : St c3 e3 (L) := hS
 have Z2 := Z2.trans b3
 have a6 := a6.mono b3
 have a9 := a9.mono b3
 have c4 : ev e2 (.tmp 26) = Value.bool (!a7) := c8 9 26 (by decide) rfl
 refine Z0 ?_
 by_cases b0 : a7 = true
 rw [if_pos b0] at a4
 refine Z9 (Eq.trans (by exact c4) (congrArg (fun b => Value.bool (!b)) b0)) (Y6 (X2 (Z1 (Z4 (vI a3) (by exact (evT (b4 5 rfl) a5)) rfl ?_))))
 refine V0 (a3 + 1) rfl rfl (IntWalk.i64_in _ (by omega)) rfl (Z6 (vI (a3 + 1)) rfl rfl (Z0 ?_))
 exact e4 _ _ ⟨(a3 + 1), c3, a4, Z2, hS, (by omega), a6, a9, (evT (b4 0 rfl) a8), (evT (b4 1 rfl) b1), rfl⟩
 rw [if_neg b0] at a4
 refine Y0 (Eq.trans (by exact c4) (congrArg (fun b => Value.bool (!b)) (W2 b0))) (Z3 (Z1 (Z6 (Value.bool false) rfl rfl (Z0 ?_))))
 refine Y9 (vs := [Value.bool false]) Tryz.func110 ⟨rfl, trivial⟩ ?_
 have hz := Option.some.inj a4
 subst hz
 dsimp only [Ex.elim] at b2
 have hz := Option.some.inj b2
 subst hz
 exact ⟨_, _, rfl, Z2, hS, rfl⟩
 rw [if_neg b8] at a4
 refine Z9 (bF b8 rfl) ?_
 refine W4 rfl ?_
 have hz := Option.some.inj a4
 subst hz
 exact e5 _ _ ⟨c9, rfl, Z2, hS⟩
 exact ⟨0, H, a4, Z2, hS, (by omega), a6, a9, rfl, rfl, rfl⟩
 rintro i2 i3 ⟨i4, rfl, Z2, hS⟩
 dsimp only [Ex.elim] at b2
 refine Z3 (Z1 (Z6 (Value.bool true) rfl rfl (Z0 ?_)))
 refine Y9 (vs := [Value.bool true]) Tryz.func110 ⟨rfl, trivial⟩ ?_
 have hz := Option.some.inj b2
 subst hz
 exact ⟨_, _, rfl, Z2, hS, rfl⟩
 rw [if_neg b7] at q0
 refine Y0 (bO b7 rfl) (Z3 (Z1 (Z6 (Value.bool false) rfl rfl (Z0 ?_))))
 refine Y9 (vs := [Value.bool false]) Tryz.func110 ⟨rfl, trivial⟩ ?_
 have hz := Option.some.inj q0
 subst hz
 exact ⟨_, _, rfl, Z2, hS, rfl⟩
def B6 (K : Nat) (a0 : (List MpT)) : Nat → Int → Int → Option (Ex Int (Int))
 | 0, _, _ => none
 | k + 1, a5, a3 => (if a3 < (a0.length : Int) then ((Zl5 K (rd a0 a3) a5).bind fun r6 => (if r6 < 0 then some (.ret (-1)) else B6 K a0 k r6 (a3 + 1))) else some (.go a5))
def Zt8 (K : Nat) (a0 : (List MpT)) (a1 : Int) : Option Int := (if (IntKind.i64.wrap (a1 - (a0.length : Int))) < 0 then some (-1) else ((B6 K a0 K (IntKind.i64.wrap (a1 - (a0.length : Int))) 0).bind (Ex.elim (fun r => some r) (fun s => (fun (a6 : Int) => some a6) s))))
theorem Yr4 {K : Nat} {a0 : (List MpT)} {a1 : Int} {r : Int} (q0 : Zt8 K a0 a1 = some r) {H : FH} {w : World} {L : OL} {s0 : Value} (a7 : Y3 (X6 yT) H s0 a0) (hS : St H w L) :
 Calls Tryz.prog 33 #[s0, vI a1] w (T6 (fun v G => (R.int .i64).p G v r) H L) := by
 have Z2 := Sub.refl H
 refine X0 Tryz.func33 rfl Tryz.ntmps33 rfl ?_
 unfold Zt8 at q0
 refine Z3 (Z1 (Z6 (vI 0) rfl rfl (Z0 (Z3 (Z1 (Z4 (vI a1) rfl rfl (Z4 (s0) rfl rfl ?_)))))))
 have d4 := a7.bound
 refine W6 Yz3 rfl a7 rfl ?_
 refine Zu4 (IntKind.i64.wrap (a1 - (a0.length : Int))) rfl rfl rfl rfl (Z6 (vI (IntKind.i64.wrap (a1 - (a0.length : Int)))) rfl rfl (Z0 (Z3 (Z3 (Z1 (Z4 (vI (IntKind.i64.wrap (a1 - (a0.length : Int)))) rfl rfl ?_))))))
 refine U5 (k := .i64) (a := (IntKind.i64.wrap (a1 - (a0.length : Int)))) (b := 0) rfl rfl rfl (Z0 ?_)
 by_cases b2 : (IntKind.i64.wrap (a1 - (a0.length : Int))) < 0
 rw [if_pos b2] at q0
 refine Y0 (bT b2 rfl) (Z3 (Z1 (Z6 (vI (-1)) rfl rfl (Z0 ?_))))
 refine Y9 (vs := [vI (-1)]) Tryz.func33 ⟨rfl, trivial⟩ ?_
 have hz := Option.some.inj q0
 subst hz
 exact ⟨_, _, rfl, Z2, hS, rfl⟩
 rw [if_neg b2] at q0
 refine Z9 (bF b2 rfl) (Y6 (Z3 (Z3 (Z1 (Z6 (vI 0) rfl rfl (Z0 (Y7 ?_)))))))
 obtain ⟨b7, a4, b1⟩ := bind_some q0
 refine W7 (id := 0) (fun k f w => ∃ (a5 : Int) (a3 : Int) (H1 : FH), B6 K a0 k a5 a3 = some b7 ∧ Sub H H1 ∧ St H1 w (L) ∧ 0 ≤ a3 ∧ Y3 (X6 yT) H1 s0 a0 ∧ ev f (.tmp 0) = s0 ∧ ev f (.tmp 1) = vI a5 ∧ ev f (.tmp 5) = vI a3) (fun f w => ∃ (a6 : Int) (H1 : FH), b7 = .go a6 ∧ Sub H H1 ∧ St H1 w (L) ∧ ev f (.tmp 1) = vI a6) rfl ?_ ?_ K ?_ ?_
 rintro f w ⟨a5, a3, H1, a4, _⟩
 rw [B6] at a4; cases a4
 rintro k c9 d0 c2 c3 ⟨a5, a3, c0, a4, Z2, hS, c4, a7, a8, b0, a9⟩
 rw [B6] at a4
 refine Z3 (Z3 (Z1 (Z4 (vI a3) (by exact a9) rfl (Z4 (s0) (by exact a8) rfl ?_))))
 have d5 := a7.bound
 refine W6 Yz3 rfl a7 rfl ?_
 refine U5 (k := .i64) (a := a3) (b := (a0.length : Int)) rfl rfl rfl (Z0 ?_)
 by_cases b3 : a3 < (a0.length : Int)
 rw [if_pos b3] at a4
 refine Y0 (bT b3 rfl) (Y6 (Z3 (Y7 (Z3 (Z1 (Z4 (s0) (by exact a8) rfl (Z4 (vI a3) (by exact a9) rfl ?_)))))))
 obtain ⟨b5, o5, d6, E5, _, c5, c6, ⟨c1, rfl, b8⟩, c7⟩ := a7.elem (i := a3) (by omega) (by omega)
 refine W3 Yz3 rfl rfl c5 rfl (by omega) (by omega) rfl ?_
 refine V5 ([c1]) Yu7 rfl (hS.froz _ _ c6) rfl c7 rfl (Z4 (vI a5) (by exact b0) rfl ?_)
 obtain ⟨r6, c8, a4⟩ := bind_some a4
 refine Y8 Tryz.call27 (T0 rfl rfl) rfl (Yd2 c8 b8 hS) ?_
 rintro e6 w7 ⟨_, H6, rfl, b9, hS, rfl⟩
 refine ⟨_, rfl, ?_⟩
 have Z2 := Z2.trans b9
 have a7 := a7.mono b9
 refine Z6 (vI r6) rfl rfl (Z0 (Z3 (Z1 (Z4 (vI r6) rfl rfl ?_))))
 refine U5 (k := .i64) (a := r6) (b := 0) rfl rfl rfl (Z0 ?_)
 by_cases b4 : r6 < 0
 rw [if_pos b4] at a4
 refine Y0 (bT b4 rfl) (Z3 (Z1 (Z6 (vI (-1)) rfl rfl (Z0 ?_))))
 refine Y9 (vs := [vI (-1)]) Tryz.func33 ⟨rfl, trivial⟩ ?_
 have hz := Option.some.inj a4
 subst hz
 dsimp only [Ex.elim] at b1
 have hz := Option.some.inj b1
 subst hz
 exact ⟨_, _, rfl, Z2, hS, rfl⟩
 rw [if_neg b4] at a4
 refine Z9 (bF b4 rfl) (Y6 (X2 (Z1 (Z4 (vI a3) (by exact a9) rfl ?_))))
 refine V0 (a3 + 1) rfl rfl (IntWalk.i64_in _ (by omega)) rfl (Z6 (vI (a3 + 1)) rfl rfl (Z0 ?_))
 exact c2 _ _ ⟨r6, (a3 + 1), H6, a4, Z2, hS, (by omega), a7, a8, rfl, rfl⟩
 rw [if_neg b3] at a4
 refine Z9 (bF b3 rfl) ?_
 refine W4 rfl ?_
 have hz := Option.some.inj a4
 subst hz
 exact c3 _ _ ⟨a5, c0, rfl, Z2, hS, b0⟩
 exact ⟨(IntKind.i64.wrap (a1 - (a0.length : Int))), 0, H, a4, Z2, hS, (by omega), a7, rfl, rfl, rfl⟩
 rintro d1 d2 ⟨a6, d3, rfl, Z2, hS, b6⟩
 dsimp only [Ex.elim] at b1
 refine Z3 (Z1 (Z4 (vI a6) (by exact b6) rfl (Z6 (vI a6) rfl rfl (Z0 ?_))))
 refine Y9 (vs := [vI a6]) Tryz.func33 ⟨rfl, trivial⟩ ?_
 have hz := Option.some.inj b1
 subst hz
 exact ⟨_, _, rfl, Z2, hS, rfl⟩
def Zb4 (K : Nat) (a0 : (List Int)) (a1 : MpT) (a2 : Int) : Option Bool := ((Zr5 K a0 a1).bind fun r4 => (if r4.2 = true then (if r4.1 = (-1) then some true else some (decide (r4.1 = a2))) else some false))
theorem Zx1 {K : Nat} {a0 : (List Int)} {a1 : MpT} {a2 : Int} {r : Bool} (q0 : Zb4 K a0 a1 a2 = some r) {H : FH} {w : World} {L : OL} {s0 : Value} {s1 : Value} (a5 : Y3 (X3 .i64) H s0 a0) (a6 : Y3 yT H s1 a1) (hS : St H w L) :
 Calls Tryz.prog 126 #[s0, vA ([s1]), vI a2] w (T6 (fun v G => R.bool.p G v r) H L) := by
 have Z2 := Sub.refl H
 refine X0 Tryz.func126 rfl Tryz.ntmps126 rfl ?_
 unfold Zb4 at q0
 refine Z3 (Z1 ?_)
 refine T7 (v := vA ([s1])) ([s1]).toArray rfl rfl hS rfl ?_
 intro b1 w2 hS
 refine Z6 (Value.bool false) rfl rfl (Z0 (Z3 (Z1 (Z4 (s0) rfl rfl ?_))))
 refine X8 U7 rfl (hS.get mL) rfl rfl ?_
 obtain ⟨r4, a7, q0⟩ := bind_some q0
 refine Y8 Tryz.call130 (T0 rfl rfl) rfl (Yn0 a7 a5 a6 hS) ?_
 rintro e4 w5 ⟨_, H4, rfl, a8, hS, ⟨a9, b0, rfl, rfl, rfl⟩⟩
 refine ⟨_, rfl, ?_⟩
 have Z2 := Z2.trans a8
 refine Z4 (Value.tuple #[vI r4.1, Value.bool r4.2]) rfl rfl (U3 (vI r4.1) rfl rfl rfl (U3 (Value.bool r4.2) rfl rfl rfl (Z6 (vI r4.1) rfl rfl (Z6 (Value.bool r4.2) rfl rfl (Z0 (Z3 (Z1 (Z4 (Value.bool r4.2) rfl rfl (Z4 (Value.bool r4.2) rfl rfl ?_)))))))))
 by_cases a3 : r4.2 = true
 rw [if_pos a3] at q0
 refine Y1 rfl rfl (Eq.trans rfl (congrArg Value.bool a3)) (Z4 (vI r4.1) rfl rfl ?_)
 refine Y1 rfl rfl (Eq.trans rfl (congrArg Value.bool a3)) ?_
 refine Zf2 (k := .i64) (a := r4.1) (b := (-1)) rfl rfl rfl ?_
 refine Y1 rfl rfl (Eq.trans rfl (congrArg Value.bool a3)) (Z4 (Value.bool (decide (r4.1 = (-1)))) rfl rfl ?_)
 by_cases a4 : r4.1 = (-1)
 rw [if_pos a4] at q0
 refine Z8 rfl rfl (bT a4 rfl) rfl rfl rfl (Z8 rfl rfl (bT a4 rfl) rfl rfl rfl (Z8 rfl rfl (bT a4 rfl) rfl rfl rfl ?_))
 refine Y1 rfl rfl (Eq.trans rfl (congrArg Value.bool a3)) ?_
 refine V1 (t := true) (Value.bool true) (bT a4 rfl) ((if_pos rfl).trans rfl) rfl ?_
 refine V1 (t := true) (Value.bool true) (Eq.trans rfl (congrArg Value.bool a3)) ((if_pos rfl).trans rfl) rfl (Z6 (Value.bool true) rfl rfl (Z0 ?_))
 refine Y9 (vs := [Value.bool true]) Tryz.func126 ⟨rfl, trivial⟩ ?_
 have hz := Option.some.inj q0
 subst hz
 exact ⟨_, _, rfl, Z2, (St.dropA hS), rfl⟩
 rw [if_neg a4] at q0
 refine Y1 rfl rfl (bF a4 rfl) (Z4 (vI r4.1) rfl rfl ?_)
 refine Y1 rfl rfl (bF a4 rfl) (Z4 (vI a2) rfl rfl ?_)
 refine Y1 rfl rfl (bF a4 rfl) ?_
 refine Zf2 (k := .i64) (a := r4.1) (b := a2) rfl rfl rfl ?_
 refine Y1 rfl rfl (Eq.trans rfl (congrArg Value.bool a3)) ?_
 refine V1 (t := false) (Value.bool (decide (r4.1 = a2))) (bF a4 rfl) ((if_neg Bool.false_ne_true).trans rfl) rfl ?_
 refine V1 (t := true) (Value.bool (decide (r4.1 = a2))) (Eq.trans rfl (congrArg Value.bool a3)) ((if_pos rfl).trans rfl) rfl (Z6 (Value.bool (decide (r4.1 = a2))) rfl rfl (Z0 ?_))
 refine Y9 (vs := [Value.bool (decide (r4.1 = a2))]) Tryz.func126 ⟨rfl, trivial⟩ ?_
 have hz := Option.some.inj q0
 subst hz
 exact ⟨_, _, rfl, Z2, (St.dropA hS), rfl⟩
 rw [if_neg a3] at q0
 refine Z8 rfl rfl (Eq.trans rfl (congrArg Value.bool (W2 a3))) rfl rfl rfl (Z8 rfl rfl (Eq.trans rfl (congrArg Value.bool (W2 a3))) rfl rfl rfl (Z8 rfl rfl (Eq.trans rfl (congrArg Value.bool (W2 a3))) rfl rfl rfl ?_))
 refine V3 rfl rfl rfl rfl rfl ?_
 refine V3 rfl rfl rfl rfl rfl ?_
 refine V3 rfl rfl rfl rfl rfl (Z8 rfl rfl (Eq.trans rfl (congrArg Value.bool (W2 a3))) rfl rfl rfl ?_)
 refine V1 (t := false) (Value.bool false) (Eq.trans rfl (congrArg Value.bool (W2 a3))) ((if_neg Bool.false_ne_true).trans rfl) rfl (Z6 (Value.bool false) rfl rfl (Z0 ?_))
 refine Y9 (vs := [Value.bool false]) Tryz.func126 ⟨rfl, trivial⟩ ?_
 have hz := Option.some.inj q0
 subst hz
 exact ⟨_, _, rfl, Z2, (St.dropA hS), rfl⟩
def Zd7 (K : Nat) (a0 : ((List Int) × (List MpT))) (a1 : Int) : Option Int := ((Zi3 K a0.1 a1).bind fun r4 => (if r4 < 0 then some (-1) else ((Zj9 K a0.2 r4).bind fun r7 => (if r7 < 0 then some (-1) else some r7))))
theorem Zv3 {K : Nat} {a0 : ((List Int) × (List MpT))} {a1 : Int} {r : Int} (q0 : Zd7 K a0 a1 = some r) {H : FH} {w : World} {L : OL} {s0 : Value} {s1 : Value} (a7 : Y3 (X3 .i64) H s0 a0.1) (a5 : Y3 (X6 yT) H s1 a0.2) (hS : St H w L) :
 Calls Tryz.prog 21 #[vA ([s0] ++ [s1]), vI a1] w (T6 (fun v G => (R.int .i64).p G v r) H L) := by
 have Z2 := Sub.refl H
 refine X0 Tryz.func21 rfl Tryz.ntmps21 rfl ?_
 unfold Zd7 at q0
 refine Z3 (Z1 ?_)
 refine T7 (v := vA ([s0] ++ [s1])) ([s0] ++ [s1]).toArray rfl rfl hS rfl ?_
 intro b1 w2 hS
 refine Z6 (vI 0) rfl rfl (Z0 (Z3 (Z1 (Y2 R4 rfl rfl ?_))))
 refine Y4 (s0) J3 rfl (hS.get mL) rfl rfl (Z4 (vI a1) rfl rfl ?_)
 obtain ⟨r4, a8, q0⟩ := bind_some q0
 refine Y8 Tryz.call26 (T0 rfl rfl) rfl (Yk2 a8 a7 hS) ?_
 rintro e4 w5 ⟨_, H4, rfl, a6, hS, rfl⟩
 refine ⟨_, rfl, ?_⟩
 have Z2 := Z2.trans a6
 have a5 := a5.mono a6
 refine Z6 (vI r4) rfl rfl (Z0 (Z3 (Z3 (Z1 (Z4 (vI r4) rfl rfl ?_)))))
 refine U5 (k := .i64) (a := r4) (b := 0) rfl rfl rfl (Z0 ?_)
 by_cases a3 : r4 < 0
 rw [if_pos a3] at q0
 refine Y0 (bT a3 rfl) (Z3 (Z1 (Z6 (vI (-1)) rfl rfl (Z0 ?_))))
 refine Y9 (vs := [vI (-1)]) Tryz.func21 ⟨rfl, trivial⟩ ?_
 have hz := Option.some.inj q0
 subst hz
 exact ⟨_, _, rfl, Z2, (St.dropA hS), rfl⟩
 rw [if_neg a3] at q0
 refine Z9 (bF a3 rfl) (Y6 (Z3 (Z1 (Y2 N5 rfl rfl ?_))))
 refine Y4 (s1) Zd8 rfl (hS.get mL) rfl rfl (Z4 (vI r4) rfl rfl ?_)
 obtain ⟨r7, a9, q0⟩ := bind_some q0
 refine Y8 Tryz.call72 (T0 rfl rfl) rfl (Yl6 a9 a5 hS) ?_
 rintro e7 w8 ⟨_, H7, rfl, b0, hS, rfl⟩
 refine ⟨_, rfl, ?_⟩
 have Z2 := Z2.trans b0
 refine Z6 (vI r7) rfl rfl (Z0 (Z3 (Z3 (Z1 (Z4 (vI r7) rfl rfl ?_)))))
 refine U5 (k := .i64) (a := r7) (b := 0) rfl rfl rfl (Z0 ?_)
 by_cases a4 : r7 < 0
 rw [if_pos a4] at q0
 refine Y0 (bT a4 rfl) (Z3 (Z1 (Z6 (vI (-1)) rfl rfl (Z0 ?_))))
 refine Y9 (vs := [vI (-1)]) Tryz.func21 ⟨rfl, trivial⟩ ?_
 have hz := Option.some.inj q0
 subst hz
 exact ⟨_, _, rfl, Z2, (St.dropA hS), rfl⟩
 rw [if_neg a4] at q0
 refine Z9 (bF a4 rfl) (Y6 (Z3 (Z1 (Z4 (vI r7) rfl rfl (Z6 (vI r7) rfl rfl (Z0 ?_))))))
 refine Y9 (vs := [vI r7]) Tryz.func21 ⟨rfl, trivial⟩ ?_
 have hz := Option.some.inj q0
 subst hz
 exact ⟨_, _, rfl, Z2, (St.dropA hS), rfl⟩
def Zf7 (K : Nat) (a0 : Int) : Option MpT := (if 0 ≤ a0 then (if a0 < 8 then ((L3 K (T8 (fun _ => 0) a0 1) 1).bind fun a4 => some a4) else none) else none)
theorem Yg1 {K : Nat} {a0 : Int} {r : MpT} (q0 : Zf7 K a0 = some r) {H : FH} {w : World} {L : OL} (hS : St H w L) :
 Calls Tryz.prog 169 #[vI a0] w (T6 (fun v G => (R.agg (X6 yT)).p G v r) H L) := by
 have Z2 := Sub.refl H
 refine X0 Tryz.func169 rfl Tryz.ntmps169 rfl ?_
 unfold Zf7 at q0
 refine Z3 (Z1 ?_)
 refine W9 (z := vA ([vN])) ([vN]).toArray Zb2.zero rfl hS rfl ?_
 intro b1 w2 hS
 refine Z0 (Z3 (Z1 ?_))
 refine Q2 (vA (Z7 .u8 (fun _ => 0))) Yt1 rfl ?_
 refine W9 (z := vA (Z7 .u8 (fun _ => 0))) (Z7 .u8 (fun _ => 0)).toArray Ya8.zero rfl hS rfl ?_
 intro b4 w5 hS
 refine W1 (v := vA (Z7 .u8 (fun _ => 0))) (vs := (Z7 .u8 (fun _ => 0)).toArray) (cs := (Z7 .u8 (fun _ => 0)).toArray) N0 rfl rfl rfl hS rfl (S8 .u8 (fun _ => 0)) rfl ?_
 intro w7 hS
 refine Z0 (Z3 (Z1 (Z4 (vI a0) rfl rfl ?_)))
 obtain ⟨a7, q0⟩ := gd q0
 obtain ⟨a8, q0⟩ := gd q0
 refine W8 Za7 rfl rfl (by omega) (by omega) rfl ?_
 refine D0 (v := Value.int .u8 1) (cs := (Z7 .u8 (fun _ => 0)).toArray) (cs' := (Z7 .u8 (T8 (fun _ => 0) a0 1)).toArray) ty5 rfl rfl hS rfl (Zu7 rfl) (by simp [Z7, U2]; omega) (Ze5 (by omega) (by omega)) ?_
 intro a9 hS
 refine Z0 (Z3 (Z1 ?_))
 refine X8 N0 rfl (hS.get mL) rfl rfl ?_
 obtain ⟨a4, a5, q0⟩ := bind_some q0
 refine Y8 Tryz.call170 (T0 rfl rfl) rfl (Zf5 a5  hS) ?_
 rintro b0 b2 ⟨b3, b5, rfl, a6, hS, ⟨_, rfl, ⟨a1, rfl, a3⟩⟩⟩
 refine ⟨_, rfl, ?_⟩
 have Z2 := Z2.trans a6
 have hS := hS.perm U4
 refine W1 (v := vA ([a1])) (vs := ([a1]).toArray) (cs := ([vN]).toArray) U7 rfl rfl rfl hS rfl (S2 a3.isOne) rfl ?_
 intro b6 hS
 have hS := hS.perm U4.symm
 refine Z0 ?_
 refine Y9 (vs := [vA ([a1])]) Tryz.func169 ⟨⟨_, rfl, U8 U7 (hS.get (mR mL)) rfl⟩, trivial⟩ ?_
 have hz := Option.some.inj q0
 subst hz
 exact ⟨_, _, rfl, Z2, (St.dropA (St.dropA hS)), ⟨_, rfl, ⟨_, rfl, a3⟩⟩⟩
end Go.Proofs.YtfodlhkoafhplaaGreat
