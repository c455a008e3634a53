/- Walks of functions: each computes its pure function, if that gives a value. -/
import Derived.Test.YtabofnehiclkiaaGreatXF8
import Derived.Test.YtabofnehiclkiaaGreatXTy
import Derived.Test.YtabofnehiclkiaaGreatXF4
import Derived.Test.YtabofnehiclkiaaGreatXF5
import Derived.Test.YtabofnehiclkiaaGreatXF6
import Derived.Test.YtabofnehiclkiaaGreatXF3
import Derived.Test.YtabofnehiclkiaaGreatXF7
namespace Go.Proofs.YtabofnehiclkiaaGreat
open Go
set_option linter.unusedSimpArgs false
set_option linter.unusedVariables false
set_option maxRecDepth 100000
set_option maxHeartbeats 8000000
variable {K : Nat} {H : FH} {w : World} {L : OL} {s0 s1 s2 s3 s4 s5 s6 : Value}
instance : DecidableEq A8 := fun a b => decidable_of_iff _ (Zi1 (a := a) (b := b))
theorem Xh7 (K : Nat) (x : Int) : Zm8 K x = some (x % 10007) := by
 unfold Zm8
 have h1 : -10007 < x.tmod 10007 ∧ x.tmod 10007 < 10007 := by
  constructor
  have := Int.tmod_lt_of_pos (-x) (show (0 : Int) < 10007 by decide)
  rw [Int.neg_tmod] at this; omega
  exact Int.tmod_lt_of_pos x (by decide)
 rw [IntWalk.i64_in _ (by omega)]
 congr 1
 rw [Int.tmod_eq_emod_of_nonneg (by omega)]
 rw [Int.add_emod_right]
 rcases Int.emod_two_eq x with _ | _ <;> (rw [Int.tmod_eq_emod]; split <;> omega)
def Zw6 (s : MpT) (p : A8) (f : Int) : MpT := if (Q1 s p + f) % 10007 = 0 then Zk5 s p else F6 s p ((Q1 s p + f) % 10007)
theorem Yj7 {s : MpT} (h : nfm s = true) (a : A8) : 0 ≤ Q1 s a ∧ Q1 s a ≤ 10006 := by
 by_cases hm : a ∈ s.map Prod.fst
 obtain ⟨⟨b, x⟩, hp, rfl⟩ := List.mem_map.1 hm
 rw [Yu9 (Yc3 (P8 h)) hp]
 have := Zu0 h _ hp
 simp only at this ⊢; omega
 rw [Zs8 hm]; omega
theorem Yr0 {K : Nat} {s : MpT} {p : A8} {f : Int} (h : nfm s = true ∧ -4611686018427387904 ≤ f ∧ f ≤ 4611686018427387904) : T8 K s p f = some (Zw6 s p f) := by
 unfold T8 Zw6
 rw [if_pos h]
 have hb := Yj7 h.1 p
 rw [IntWalk.i64_in _ (by omega), Xh7]
 simp only [Option.bind_some]
 split <;> rfl
theorem Zw3 {s : MpT} {a : A8} {q : A8 × Int} : q ∈ Zk5 s a ↔ q ∈ s ∧ q.1 ≠ a := by
 unfold Zk5
 rw [List.mem_filter]
 constructor
 rintro ⟨h1, h2⟩
 refine ⟨h1, fun e => ?_⟩
 rw [e, Zi1.2 rfl] at h2; simp at h2
 rintro ⟨h1, h2⟩
 refine ⟨h1, ?_⟩
 cases e : eq8 a q.1 with
 | false => rfl
 | true => exact absurd (Zi1.1 e).symm h2
theorem Yl0 {s : MpT} {a : A8} {x : Int} {q : A8 × Int} : q ∈ F6 s a x ↔ q = (a, x) ∨ q ∈ s ∧ q.1 ≠ a := by
 unfold F6
 rw [(Zt3 _ _).mem_iff, List.mem_cons, Zw3]
theorem Zj3 {s : MpT} (h : nfm s = true) (p : A8) (f : Int) : nfm (Zw6 s p f) = true := by
 unfold Zw6
 split
 exact Ye7 (Yu1 (P8 h) p) (fun q hq => Zu0 h q (Zw3.1 hq).1)
 refine Ye7 (Yu2 (P8 h) p _) (fun q hq => ?_)
 rcases Yl0.1 hq with rfl | hq
 simp only; omega
 exact Zu0 h q hq.1
theorem Ya2 {s : MpT} (hs : Srt s) {a : A8} {x : Int} (h : (a, x) ∈ s) : Q1 s a = x := Yu9 (Yc3 hs) h
theorem Zz5 {s : MpT} (h : nfm s = true) (p : A8) (f : Int) (a : A8) : Q1 (Zw6 s p f) a = if a = p then (Q1 s p + f) % 10007 else Q1 s a := by
 have hs := P8 h
 have h' := P8 (Zj3 h p f)
 unfold Zw6 at h' ⊢
 split
 rename_i h0
 rw [if_pos h0] at h'
 by_cases e : a = p
 subst e
 rw [if_pos rfl, h0, Zs8]
 intro hm
 obtain ⟨q, hq, e⟩ := List.mem_map.1 hm
 exact (Zw3.1 hq).2 e
 rw [if_neg e]
 by_cases hm : a ∈ s.map Prod.fst
 obtain ⟨⟨b, x⟩, hq, rfl⟩ := List.mem_map.1 hm
 rw [Ya2 hs hq, Ya2 h' (Zw3.2 ⟨hq, e⟩)]
 rw [Zs8 hm, Zs8]
 intro hm'
 obtain ⟨q, hq, rfl⟩ := List.mem_map.1 hm'
 exact hm (List.mem_map.2 ⟨q, (Zw3.1 hq).1, rfl⟩)
 rename_i h0
 rw [if_neg h0] at h'
 by_cases e : a = p
 subst e
 rw [if_pos rfl, Ya2 h' (Yl0.2 (.inl rfl))]
 rw [if_neg e]
 by_cases hm : a ∈ s.map Prod.fst
 obtain ⟨⟨b, x⟩, hq, rfl⟩ := List.mem_map.1 hm
 rw [Ya2 hs hq, Ya2 h' (Yl0.2 (.inr ⟨hq, e⟩))]
 rw [Zs8 hm, Zs8]
 intro hm'
 obtain ⟨q, hq, rfl⟩ := List.mem_map.1 hm'
 rcases Yl0.1 hq with rfl | hq
 exact e rfl
 exact hm (List.mem_map.2 ⟨q, hq.1, rfl⟩)
/-- two sums in normal form are the same if they have the same factors -/
theorem Xi2 {s t : MpT} (hs : nfm s = true) (ht : nfm t = true) (h : ∀ a, Q1 s a = Q1 t a) : s = t := by
 have key : ∀ {s t : MpT}, nfm s = true → nfm t = true → (∀ a, Q1 s a = Q1 t a) → ∀ q, q ∈ s → q ∈ t := by
  intro s t hs ht h q hq
  have h1 := Ya2 (P8 hs) (a := q.1) (x := q.2) hq
  rw [h] at h1
  by_cases hm : q.1 ∈ t.map Prod.fst
  obtain ⟨⟨b, x⟩, hp, e⟩ := List.mem_map.1 hm
  simp only at e
  subst e
  rw [Ya2 (P8 ht) hp] at h1
  subst h1; exact hp
  rw [Zs8 hm] at h1
  have := Zu0 hs q hq
  omega
 refine Xk5 (P8 hs) (P8 ht) ?_
 refine (List.perm_ext_iff_of_nodup ?_ ?_).2 (fun q => ⟨key hs ht h q, key ht hs (fun a => (h a).symm) q⟩)
 exact List.Pairwise.of_map Prod.fst (fun a b hab e => hab (by rw [e])) (Yc3 (P8 hs))
 exact List.Pairwise.of_map Prod.fst (fun a b hab e => hab (by rw [e])) (Yc3 (P8 ht))
theorem Wi4 (K : Nat) (s : MpT) (p q : A8) (f g : Int) : (T8 K s p f).bind (fun s => T8 K s q g) = (T8 K s q g).bind (fun s => T8 K s p f) := by
 have hnone : ∀ (s : MpT) (p : A8) (f : Int), ¬ (nfm s = true ∧ -4611686018427387904 ≤ f ∧ f ≤ 4611686018427387904) → T8 K s p f = none := by
  intro s p f h
  unfold T8; rw [if_neg h]
 by_cases hs : nfm s = true
 case neg => rw [hnone s p f (fun h => hs h.1), hnone s q g (fun h => hs h.1)]; rfl
 by_cases hf : -4611686018427387904 ≤ f ∧ f ≤ 4611686018427387904
 case neg =>
  rw [hnone s p f (fun h => hf h.2)]
  cases h : T8 K s q g with
  | none => rfl
  | some t => simp [hnone t p f (fun h => hf h.2)]
 by_cases hg : -4611686018427387904 ≤ g ∧ g ≤ 4611686018427387904
 case neg =>
  rw [hnone s q g (fun h => hg h.2)]
  cases h : T8 K s p f with
  | none => rfl
  | some t => simp [hnone t q g (fun h => hg h.2)]
 rw [Yr0 ⟨hs, hf⟩, Yr0 ⟨hs, hg⟩]
 simp only [Option.bind_some]
 rw [Yr0 ⟨Zj3 hs p f, hg⟩, Yr0 ⟨Zj3 hs q g, hf⟩]
 congr 1
 refine Xi2 (Zj3 (Zj3 hs p f) q g) (Zj3 (Zj3 hs q g) p f) (fun a => ?_)
 rw [Zz5 (Zj3 hs p f), Zz5 (Zj3 hs q g), Zz5 hs, Zz5 hs, Zz5 hs, Zz5 hs]
 by_cases e1 : a = p
 by_cases e2 : a = q
 subst e1; subst e2
 simp only [if_true]
 omega
 rw [if_neg e2, if_pos e1, if_pos e1, if_neg (fun e => e2 (e1.trans e))]
 rw [if_neg e1, if_neg e1]
 by_cases e2 : a = q
 rw [if_pos e2, if_pos e2, if_neg (fun e => e1 (e2.trans e))]
 rw [if_neg e2, if_neg e2]
def G5 (K : Nat) : List (A8 × Int) → MpT → Option MpT
 | [], s => some s
 | o :: os, s => (T8 K s o.1 o.2).bind (G5 K os)
theorem Yg6 {K : Nat} : ∀ (xs ys : List (A8 × Int)) (s : MpT), G5 K (xs ++ ys) s = (G5 K xs s).bind (G5 K ys)
 | [], _, _ => rfl
 | x :: xs, ys, s => by
  show (T8 K s x.1 x.2).bind (G5 K (xs ++ ys)) = ((T8 K s x.1 x.2).bind (G5 K xs)).bind (G5 K ys)
  cases T8 K s x.1 x.2 with
  | none => rfl
  | some t => exact Yg6 xs ys t
theorem Xu6 {K : Nat} {xs ys : List (A8 × Int)} (hp : xs.Perm ys) : ∀ s, G5 K xs s = G5 K ys s := by
 induction hp with
 | nil => intro s; rfl
 | cons x _ ih =>
  intro s
  show (T8 K s x.1 x.2).bind _ = (T8 K s x.1 x.2).bind _
  congr 1; funext t; exact ih t
 | swap x y l =>
  intro s
  have h := congrArg (fun o => Option.bind o (G5 K l)) (Wi4 K s y.1 x.1 y.2 x.2)
  simp only [Option.bind_assoc] at h
  exact h
 | trans _ _ ih1 ih2 => intro s; rw [ih1, ih2]
/-- a step that adds terms, the same ones whatever the sum -/
def Zv9 (K : Nat) (A : MpT → Option MpT) : Prop := ∃ o : Option (List (A8 × Int)), ∀ s, A s = o.bind fun ops => G5 K ops s
def Zt2 (K : Nat) {ρ σ X : Type} (h : X → MpT → σ) (A : MpT → Option (Ex ρ σ)) : Prop := ∃ o : Option (List (A8 × Int) × X), ∀ s, A s = o.bind fun p => (G5 K p.1 s).map fun t => .go (h p.2 t)
section
variable {K : Nat} {A B : MpT → Option MpT} {ρ σ X : Type} {h : X → MpT → σ}
theorem Zv9.comm (hA : Zv9 K A) (hB : Zv9 K B) (s : MpT) : (A s).bind B = (B s).bind A := by
 obtain ⟨a, ha⟩ := hA
 obtain ⟨b, hb⟩ := hB
 have e1 : A = fun s => a.bind fun ops => G5 K ops s := funext ha
 have e2 : B = fun s => b.bind fun ops => G5 K ops s := funext hb
 subst e1; subst e2
 cases a with
 | none => cases b with
  | none => rfl
  | some y => simp only [Option.bind_none, Option.bind_some]; cases G5 K y s <;> rfl
 | some x => cases b with
  | none => simp only [Option.bind_none, Option.bind_some]; cases G5 K x s <;> rfl
  | some y =>
   simp only [Option.bind_some]
   show (G5 K x s).bind (G5 K y) = (G5 K y s).bind (G5 K x)
   rw [← Yg6, ← Yg6]
   exact Xu6 List.perm_append_comm s
theorem Zv9.skip : Zv9 K (fun s => some s) := ⟨some [], fun _ => rfl⟩
theorem Zv9.fail : Zv9 K (fun _ => none) := ⟨none, fun _ => rfl⟩
theorem Zv9.add (p : A8) (f : Int) : Zv9 K (fun s => T8 K s p f) := ⟨some [(p, f)], fun s => by simp [G5]⟩
theorem Zv9.const {β : Type} {c : Option β} {B : β → MpT → Option MpT} (hB : ∀ r, Zv9 K (B r)) : Zv9 K (fun s => c.bind fun r => B r s) := by
 cases c with
 | none => exact .fail
 | some r => exact hB r
theorem Zv9.ite {c : Prop} [Decidable c] (hA : Zv9 K A) (hB : Zv9 K B) : Zv9 K (fun s => if c then A s else B s) := by
 by_cases hc : c
 simp only [if_pos hc]; exact hA
 simp only [if_neg hc]; exact hB
theorem Zt2.go (x : X) : Zt2 K (ρ := ρ) h (fun s => some (.go (h x s))) := ⟨some ([], x), fun _ => rfl⟩
theorem Zt2.fail : Zt2 K (ρ := ρ) h (fun _ => none) := ⟨none, fun _ => rfl⟩
theorem Zt2.bind {B : MpT → Option (Ex ρ σ)} (hA : Zv9 K A) (hB : Zt2 K h B) : Zt2 K h (fun s => (A s).bind B) := by
 obtain ⟨a, ha⟩ := hA
 obtain ⟨b, hb⟩ := hB
 have e1 : A = fun s => a.bind fun ops => G5 K ops s := funext ha
 have e2 : B = fun s => b.bind fun p => (G5 K p.1 s).map fun t => .go (h p.2 t) := funext hb
 subst e1; subst e2
 cases a with
 | none => exact .fail
 | some x => cases b with
  | none => exact ⟨none, fun s => by simp only [Option.bind_none, Option.bind_some]; cases G5 K x s <;> rfl⟩
  | some y =>
   refine ⟨some (x ++ y.1, y.2), fun s => ?_⟩
   simp only [Option.bind_some]
   rw [Yg6]
   cases G5 K x s <;> rfl
theorem Zt2.const {β : Type} {c : Option β} {B : β → MpT → Option (Ex ρ σ)} (hB : ∀ r, Zt2 K h (B r)) : Zt2 K h (fun s => c.bind fun r => B r s) := by
 cases c with
 | none => exact .fail
 | some r => exact hB r
theorem Zt2.ite {c : Prop} [Decidable c] {A B : MpT → Option (Ex ρ σ)} (hA : Zt2 K h A) (hB : Zt2 K h B) : Zt2 K h (fun s => if c then A s else B s) := by
 by_cases hc : c
 simp only [if_pos hc]; exact hA
 simp only [if_neg hc]; exact hB
/-- what such a loop gives, handed on -/
theorem Zt2.step {A : MpT → Option (Ex ρ σ)} (hA : Zt2 K h A) (pr : σ → MpT) (hp : ∀ x s, pr (h x s) = s) :
 ∃ F, Zv9 K F ∧ ∀ {τ : Type} (R : ρ → Option τ) (C : MpT → Option τ) (s : MpT), (A s).bind (Ex.elim R fun y => C (pr y)) = (F s).bind C := by
 obtain ⟨a, ha⟩ := hA
 refine ⟨fun s => a.bind fun p => G5 K p.1 s, ?_, fun R C s => ?_⟩
 cases a with
 | none => exact .fail
 | some p => exact ⟨some p.1, fun _ => rfl⟩
 rw [ha]
 cases a with
 | none => rfl
 | some p =>
  simp only [Option.bind_some]
  cases G5 K p.1 s with
  | none => rfl
  | some t =>
   show C (pr (h p.2 t)) = C t
   rw [hp]
theorem Yh7 (L : Nat → MpT → MpT → Option (Ex ρ σ)) (h0 : ∀ zs s, L 0 zs s = none) (hF : ∀ z, ∃ F, Zv9 K F ∧ ∀ k zs s, L (k + 1) (z :: zs) s = (F s).bind (L k zs)) {zp zq : MpT} (hp : zp.Perm zq) :
 ∀ k s, L k zp s = L k zq s := by
 induction hp with
 | nil => intro k s; rfl
 | cons z _ ih =>
  intro k s
  cases k with
  | zero => rw [h0, h0]
  | succ k =>
   obtain ⟨F, _, hc⟩ := hF z
   rw [hc, hc]
   congr 1; funext t; exact ih k t
 | swap x y l =>
  intro k s
  obtain ⟨Fx, ax, hx⟩ := hF x
  obtain ⟨Fy, ay, hy⟩ := hF y
  cases k with
  | zero => rw [h0, h0]
  | succ k =>
   rw [hx, hy]
   cases k with
   | zero =>
    have e1 : L 0 (x :: l) = fun _ => none := funext fun s => h0 _ s
    have e2 : L 0 (y :: l) = fun _ => none := funext fun s => h0 _ s
    rw [e1, e2]
    cases Fx s <;> cases Fy s <;> rfl
   | succ k =>
    have e1 : L (k + 1) (x :: l) = fun s => (Fx s).bind (L k l) := funext fun s => hx k l s
    have e2 : L (k + 1) (y :: l) = fun s => (Fy s).bind (L k l) := funext fun s => hy k l s
    rw [e1, e2]
    have := congrArg (fun o => Option.bind o (L k l)) (ay.comm ax s)
    simp only [Option.bind_assoc] at this
    exact this
 | trans _ _ ih1 ih2 => intro k s; rw [ih1, ih2]
end
-- impl_power_compare
def Yx1 (xs : MpT) : Bool := xs.all fun p => (l8 p.1).all fun x => decide (0 ≤ x ∧ x ≤ 2305843009213693952)
def Zt6 (K : Nat) (a0 : MpT) : Option (List A8) := if Yx1 a0 = true ∧ a0.length < K ∧ a0.length ≤ 1000000000 then some (a0.map Prod.fst) else none
theorem Wi6 {xs : MpT} (h : Yx1 xs = true) : ∀ a, a ∈ xs.map Prod.fst → ∀ i, 0 ≤ a i ∧ a i ≤ 2305843009213693952 := by
 intro a ha i
 obtain ⟨p, hp, rfl⟩ := List.mem_map.1 ha
 have h1 := List.all_eq_true.1 (List.all_eq_true.1 h p hp)
 have : ∀ x, x ∈ l8 p.1 → 0 ≤ x ∧ x ≤ 2305843009213693952 := fun x hx => by simpa using h1 x hx
 apply this
 unfold l8
 match i with
 | 0 | 1 | 2 | 3 | 4 | 5 | 6 | 7 => simp
theorem Ww1 {xs : MpT} (hs : Srt xs) {ys : List A8} (hp : ys.Perm (xs.map Prod.fst)) (hy : ys.Pairwise fun p q => bef p q = true) : ys = xs.map Prod.fst := by
 have h1 : Srt (ys.map fun a => (a, (0 : Int))) := by
  unfold Srt
  rw [List.pairwise_map]; exact hy
 have h2 : Srt ((xs.map Prod.fst).map fun a => (a, (0 : Int))) := by
  unfold Srt
  rw [List.map_map, List.pairwise_map]; exact hs
 have h3 := congrArg (List.map Prod.fst) (Xk5 h1 h2 (hp.map _))
 simpa [List.map_map, Function.comp_def] using h3
def Yt4 (H : FH) (v : Value) (xs : List A8) (C : OL) : Prop := ∃ b c cs, v = .slice (some ⟨b, 0, none⟩) xs.length c ∧ xs.length ≤ c ∧ c ≤ maxLen ∧ cs.size = c * 8 ∧ C = [(b, .cells cs 222)] ∧
 ∀ i x, xs[i]? = some x → ∀ j, j < 8 → cs[i * 8 + j]? = (Z7 .i64 x)[j]?
theorem Yt4.of {H : FH} {v : Value} {xs : List A8} {C : OL} (h : W3 (Zr3 .i64) 222 H v xs C) (hn : xs ≠ []) : Yt4 H v xs C := by
 rcases h with ⟨_, h, _⟩ | ⟨b, c, cs, h1, h2, h3, h4, h5, h6⟩
 exact absurd h hn
 refine ⟨b, c, cs, h1, h2, h3, h4, h5, fun i x hx j hj => ?_⟩
 obtain ⟨ecs, hr, hj'⟩ := h6 i x hx
 have hr : ecs = Z7 .i64 x := hr
 subst hr
 exact hj' j hj
theorem Wy3 {n : Nat} {f : Fr} {w : World} {H : FH} {L : OL} {ops : Array Oper} {J : Fr → World → Prop} {r : List Oper} {T : TypeId} {d : Nat} {pos : String} {af : Array Edge} (hS : St H w L) (hn : Nat.blt d n = true)
 (K : ∀ u w' C', W3 (Zr3 .i64) 222 H u [] C' → Yt4 H u [] C' → St H w' (C' ++ L) → W2 Tryz.prog n ops J r (upd f d u) w') : W2 Tryz.prog n ops J (⟨some d, .buildSlice 98 0 #[], T, pos, af, none⟩ :: r) f w := by
 have hrun := Yf7 (P := Tryz.prog) (w := w) Wf9 Zr2 [] rfl (by simp) (by simp)
 refine T3 (v := .slice (some ⟨w.heap.size, 0, none⟩) 0 0) (w' := w.alloc (.cells #[] 222)) rfl rfl hn (by have h := hrun; simp only [execOp]; exact Za1 (by simpa using h))
  (K _ _ [(w.heap.size, .cells #[] 222)] (.inr ⟨w.heap.size, 0, #[], rfl, by simp, by simp [maxLen], by simp, rfl, by simp⟩) ⟨w.heap.size, 0, #[], rfl, by simp, by simp [maxLen], by simp, rfl, by simp⟩ (hS.alloc _))
theorem Yu8 {a0 : MpT} {r : List A8} (q0 : Zt6 K a0 = some r) (hs0 : Q9 .i64 H s0 a0) (hS : St H w L) :
 Calls Tryz.prog 195 #[s0] w (T2 (fun v G => (R.sl (Zr3 .i64)).p G v r) H L) := by
 have Z3 := Sub.refl H
 refine X3 Tryz.func195 rfl Tryz.ntmps195 rfl ?_
 unfold Zt6 at q0
 by_cases hg : Yx1 a0 = true ∧ a0.length < K ∧ a0.length ≤ 1000000000
 case neg => rw [if_neg hg] at q0; cases q0
 rw [if_pos hg] at q0
 obtain ⟨hok, hK, hlen⟩ := hg
 cases q0
 refine Z2 ?_
 refine Z0 ?_
 refine Z5 (Value.slice none 0 0) rfl rfl ?_
 refine Z1 ?_
 refine Z2 ?_
 refine Z0 ?_
 refine Wy3 hS rfl ?_
 intro u1 w2 C3 ho4 hnb0 hS
 have hS : St H w2 (C3 ++ L) := hS
 refine Z5 (u1) rfl rfl ?_
 refine Z1 ?_
 refine Z2 ?_
 refine Z2 ?_
 refine Z0 ?_
 refine Z4 (s0) rfl rfl ?_
 refine Yk7 Zi9 rfl hs0 hS rfl ?_
 intro it6 w7 C8 ho9 hS
 have hS : St H w7 (C8 ++ (C3 ++ L)) := hS
 refine Z1 ?_
 refine Y7 ?_
 refine W1 (id := 0) (fun k f w => ∃ (x0_own10 : MpT) (x0_own5 : (List A8)) (H1 : FH) (Cx0_own10 : OL) (Cx0_own5 : OL) (ux0_own5 : Value), ((x0_own5 ++ x0_own10.map Prod.fst).Perm (a0.map Prod.fst) ∧ x0_own10.length < k ∧ (x0_own5 = [] → Yt4 H1 ux0_own5 x0_own5 Cx0_own5)) ∧ Sub H H1 ∧ St H1 w (Cx0_own10 ++ (Cx0_own5 ++ L)) ∧ Zh4 .i64 H1 it6 x0_own10 none Cx0_own10 ∧ W3 (Zr3 .i64) 222 H1 ux0_own5 x0_own5 Cx0_own5 ∧ tv f 3 = ux0_own5 ∧ tv f 7 = it6) (fun f w => ∃ (y0_own5 : (List A8)) (H1 : FH) (Cy0_own10 : OL) (Cy0_own5 : OL) (uy0_own5 : Value), (y0_own5.Perm (a0.map Prod.fst) ∧ Yt4 H1 uy0_own5 y0_own5 Cy0_own5) ∧ Sub H H1 ∧ St H1 w (Cy0_own10 ++ (Cy0_own5 ++ L)) ∧ Zh4 .i64 H1 it6 ([] : MpT) none Cy0_own10 ∧ W3 (Zr3 .i64) 222 H1 uy0_own5 y0_own5 Cy0_own5 ∧ tv f 3 = uy0_own5) rfl ?_ ?_ K ?_ ?_
 rintro f w ⟨x0_own10, x0_own5, H1, Cx0_own10, Cx0_own5, ux0_own5, ⟨_, hk, _⟩, _⟩
 omega
 rintro k _ _ ih0 hx0 ⟨x0_own10, x0_own5, H1_0, Cx0_own10, Cx0_own5, ux0_own5, ⟨hpm, hk, hnb⟩, Z3, hS, hox0_own10, hox0_own5, ff1_0_3, ff1_0_7⟩
 refine Z2 ?_
 refine Z0 ?_
 refine Yr2 (by exact ff1_0_7) hox0_own10 hS rfl ?_ ?_
 intro hr11; subst hr11
 refine W4 (vB false) rfl rfl rfl ?_
 refine Z1 ?_
 refine Z2 ?_
 refine Z8 rfl ?_
 refine W0 rfl ?_
 have hnb' : Yt4 H1_0 ux0_own5 x0_own5 Cx0_own5 := by
  by_cases h : x0_own5 = []
  exact hnb h
  exact Yt4.of hox0_own5 h
 exact hx0 _ _ ⟨x0_own5, H1_0, Cx0_own10, Cx0_own5, ux0_own5, ⟨by simpa using hpm, hnb'⟩, Z3, hS, hox0_own10, hox0_own5, ff1_0_3⟩
 intro z12 zr13 w14 C15 hp16 hi17 hS
 have hS : St H1_0 w14 (C15 ++ (Cx0_own5 ++ L)) := hS
 have hlz := hp16.length_eq
 rw [List.length_cons] at hlz
 have hpm2 : ((x0_own5 ++ [z12.1]) ++ zr13.map Prod.fst).Perm (a0.map Prod.fst) := by
  refine List.Perm.trans ?_ hpm
  rw [List.append_assoc]
  refine List.Perm.append_left _ ?_
  exact (hp16.map Prod.fst).symm
 have hll := hpm.length_eq
 rw [List.length_append, List.length_map, List.length_map] at hll
 refine W4 (vB true) rfl rfl rfl ?_
 refine Z1 ?_
 refine Z2 ?_
 refine Y0 rfl ?_
 refine Y8 ?_
 refine Y7 ?_
 refine Z2 ?_
 refine Z0 ?_
 refine Yk5 (by exact ff1_0_7) hi17 hS rfl ?_
 refine W4 (Value.agg (Z7 .i64 z12.1).toArray) rfl rfl rfl ?_
 refine W6 (z := Value.agg (Z7 .i64 (fun _ => 0)).toArray) (Z7 .i64 (fun _ => 0)).toArray Zr2.zero rfl hS rfl ?_
 intro b18 w19 hS
 have hS : St H1_0 w19 ([(b18, .cells (Z7 .i64 (fun _ => 0)).toArray 222)] ++ (C15 ++ (Cx0_own5 ++ L))) := hS
 refine X5 (v := Value.agg (Z7 .i64 z12.1).toArray) (vs := (Z7 .i64 z12.1).toArray) (cs := (Z7 .i64 (fun _ => 0)).toArray) K2 rfl rfl rfl hS rfl (S4 .i64 z12.1) rfl ?_
 intro w21 hS
 have hS : St H1_0 w21 ([(b18, .cells (Z7 .i64 z12.1).toArray 222)] ++ (C15 ++ (Cx0_own5 ++ L))) := hS
 refine Z1 ?_
 refine Z0 ?_
 refine Z4 (ux0_own5) (by exact ff1_0_3) rfl ?_
 refine X7 K2 rfl (hS.own (b18, .cells (Z7 .i64 z12.1).toArray 222) (List.mem_append_left _ (List.mem_singleton.2 rfl))) rfl rfl ?_
 refine D9 (τ := (Zr3 .i64)) Wf9 Zr2 rfl [Value.agg (Z7 .i64 z12.1).toArray] [z12.1] rfl rfl (K6 rfl) (Zi6 rfl) (by decide) (by decide) hS rfl ?_
 intro _ H23 w24 sb25 hS hl26
 have Z3 := Z3.trans sb25
 have hox0_own5 := hox0_own5.mono sb25
 have hi17 := hi17.mono sb25
 have hS : St H23 w24 ([(b18, .cells (Z7 .i64 z12.1).toArray 222)] ++ (C15 ++ (Cx0_own5 ++ L))) := hS
 have hg27 : x0_own5.length + ([z12.1]).length ≤ 1099511627776 := by simp; omega
 have hS : St H23 w24 (Cx0_own5 ++ ([(b18, .cells (Z7 .i64 z12.1).toArray 222)] ++ (C15 ++ L))) := hS.perm (Q8 (A1 := [(b18, .cells (Z7 .i64 z12.1).toArray 222)]) (A2 := C15))
 refine N5 (τ := (Zr3 .i64)) Vi5 rfl rfl rfl hox0_own5 hS hl26 hg27 rfl ?_
 intro u28 w29 C30 ho31 hS
 have hS : St H23 w29 (C30 ++ ([(b18, .cells (Z7 .i64 z12.1).toArray 222)] ++ (C15 ++ L))) := hS
 have hS : St H23 w29 ([(b18, .cells (Z7 .i64 z12.1).toArray 222)] ++ (C15 ++ (C30 ++ L))) := hS.perm (Q8 (A1 := [(b18, .cells (Z7 .i64 z12.1).toArray 222)]) (A2 := C15)).symm
 refine Z5 (u28) rfl rfl ?_
 refine Z1 ?_
 refine X4 ?_
 have hS := St.dropA (A := [(b18, .cells (Z7 .i64 z12.1).toArray 222)]) hS
 exact ih0 _ _ ⟨zr13, (x0_own5 ++ [z12.1]), H23, C15, C30, u28, ⟨hpm2, by omega, fun h => absurd h (by simp)⟩, Z3, hS, hi17.drop, ho31, rfl, ff1_0_7⟩
 exact ⟨a0, ([] : List A8), H, C8, C3, u1, ⟨by simp, hK, fun _ => hnb0⟩, Z3, hS, ho9, ho4, rfl, rfl⟩
 rintro _ _ ⟨y0_own5, _, Cy0_own10, Cy0_own5, uy0_own5, ⟨hpm, hnb⟩, Z3, hS, _, _, ff2_0_3⟩
 obtain ⟨b, c, cs, rfl, h2, h3, h4, rfl, h6⟩ := hnb
 refine Z2 ?_
 refine Z0 ?_
 refine Z4 _ (by exact ff2_0_3) rfl ?_
 have hS := hS.dropA
 have hll := hpm.length_eq
 rw [List.length_map] at hll
 have hnd : y0_own5.Nodup := hpm.nodup_iff.2 (Yc3 hs0.srt)
 refine T5 (vs := #[.slice (some ⟨b, 0, none⟩) y0_own5.length c, .func (.func 213) #[] #[]]) Tryz.call257 (U9 rfl rfl) rfl (Wz5 h2 h3 h4 h6 hS (fun a ha => Wi6 hok a (hpm.mem_iff.1 ha)) (by omega) hnd) ?_
 rintro _ _ ⟨rfl, ys, _, hp5, hsr, hS, ho5⟩
 refine ⟨_, rfl, ?_⟩
 refine Z1 ?_
 refine Z2 ?_
 refine Z0 ?_
 refine Z4 _ (by exact ff2_0_3) rfl ?_
 refine Z5 _ rfl rfl ?_
 refine Z1 ?_
 refine X0 (vs := [.slice (some ⟨b, 0, none⟩) y0_own5.length c]) Tryz.func195 ⟨rfl, trivial⟩ ?_
 obtain ⟨_, sb33, hS, hf34⟩ := ho5.freeze hS
 have Z3 := Z3.trans sb33
 have he := Ww1 hs0.srt (hp5.trans hpm) hsr
 rw [he] at hf34
 exact ⟨_, _, rfl, Z3, hS, hf34⟩
def K7 (K : Nat) (a0 : (List Int)) (a1 : MpT) (a2 : MpT) : Nat → Int → MpT → Option (Ex MpT (MpT))
 | 0, _, _ => none
 | k + 1, a4, a5 => (if a4 < (a1.length : Int) then ((Zs1 K a0 ((rd a1 a4).1, (rd a1 a4).2) a2).bind fun d1 => ((Zf6 K a5 d1 1).bind fun c8 => K7 K a0 a1 a2 k (a4 + 1) c8)) else some (.go a5))
def A0 (K : Nat) (a0 : (List Int)) (a1 : MpT) (a2 : MpT) : Option MpT := ((K7 K a0 a1 a2 K 0 ([] : List (A8 × Int))).bind (Ex.elim (fun r => some r) (fun s => (fun (a8 : MpT) => some a8) s)))
theorem Zs7 {a0 : (List Int)} {a1 : MpT} {a2 : MpT} {r : MpT} (q0 : A0 K a0 a1 a2 = some r) (c0 : Z9 (Y6 .i64) H s0 a0) (b2 : Z9 yT H s1 a1) (b3 : Z9 yT H s2 a2) (hS : St H w L) :
 Calls Tryz.prog 197 #[s0, vA ([s1]), vA ([s2])] w (T2 (fun v G => (R.agg (Y9 yT)).p G v r) H L) := by
 have Z3 := Sub.refl H
 refine X3 Tryz.func197 rfl Tryz.ntmps197 rfl ?_
 unfold A0 at q0
 refine Z2 (Z0 ?_)
 refine S3 (v := vA ([s1])) ([s1]).toArray rfl rfl hS rfl ?_
 intro b1 _ hS
 refine S3 (v := vA ([s2])) ([s2]).toArray rfl rfl hS rfl ?_
 intro b4 _ hS
 refine W6 (z := vA ([vN])) ([vN]).toArray I0.zero rfl hS rfl ?_
 intro b7 _ hS
 refine Z1 (Z2 (Z0 ?_))
 refine R6 (vA ([vN])) Yf8 rfl ?_
 refine W6 (z := vA ([vN])) ([vN]).toArray I0.zero rfl hS rfl ?_
 intro d0 _ hS
 refine X5 (v := vA ([vN])) (vs := ([vN]).toArray) (cs := ([vN]).toArray) U2 rfl rfl rfl hS rfl (U0 rfl) rfl ?_
 intro _ hS
 refine Z1 (Z2 (Z2 (Z0 (Z5 (vI 0) rfl rfl (Z1 (Y7 ?_))))))
 have d7 : Z9 yT H (.slice none 0 0) ([] : List (A8 × Int)) := Z9.nil
 obtain ⟨d8, a7, d9⟩ := bind_some q0
 refine W1 (id := 0) (fun k f w => ∃ (a4 : Int) (a5 : MpT) (H1 : FH) (a3 : Value), K7 K a0 a1 a2 k a4 a5 = some d8 ∧ Sub H H1 ∧ St H1 w ([(d0, cA ([a3]) 45)] ++ ([(b7, cA ([vN]) 45)] ++ ([(b4, cA ([s2]) 45)] ++ ([(b1, cA ([s1]) 45)] ++ L)))) ∧ 0 ≤ a4 ∧ Z9 yT H1 a3 a5 ∧ Z9 (Y6 .i64) H1 s0 a0 ∧ Z9 yT H1 s1 a1 ∧ Z9 yT H1 s2 a2 ∧ tv f 0 = s0 ∧ tv f 4 = vP b1 ∧ tv f 5 = vP b4 ∧ tv f 6 = vP b7 ∧ tv f 7 = vP d0 ∧ tv f 8 = vI a4) (fun f w => ∃ (a8 : MpT) (H1 : FH) (a6 : Value), d8 = .go a8 ∧ Sub H H1 ∧ St H1 w ([(d0, cA ([a6]) 45)] ++ ([(b7, cA ([vN]) 45)] ++ ([(b4, cA ([s2]) 45)] ++ ([(b1, cA ([s1]) 45)] ++ L)))) ∧ Z9 yT H1 a6 a8 ∧ Z9 yT H1 s1 a1 ∧ Z9 yT H1 s2 a2 ∧ tv f 6 = vP b7 ∧ tv f 7 = vP d0) rfl ?_ ?_ K ?_ ?_
 rintro f w ⟨a4, a5, H1, a3, a7, _⟩
 rw [K7] at a7; cases a7
 rintro k _ _ f7 f8 ⟨a4, a5, f0, a3, a7, Z3, hS, _, a9, c0, b2, b3, c3, b6, c4, c5, b8, b9⟩
 rw [K7] at a7
 refine Z2 (Z2 (Z0 (Z4 (vI a4) (by exact b9) rfl (Y2 V9 (by exact b6) rfl ?_))))
 refine Y3 (s1) Q4 rfl (hS.get (mR (mR (mR mL)))) rfl rfl ?_
 have g1 := b2.bound
 refine W7 R7 rfl b2 rfl ?_
 refine V5 (k := .i64) (a := a4) (b := (a1.length : Int)) rfl rfl rfl (Z1 ?_)
 obtain ⟨d2, a7⟩ | ⟨d2, a7⟩ := ic a7
 refine Y0 (bT d2 rfl) (Y8 (Z2 (Y7 ?_)))
 obtain ⟨f9, g0, _, _, _, f1, f2, ⟨_, _, rfl, rfl, rfl⟩, f3⟩ := b2.elem (i := a4) (by omega) (by omega)
 obtain ⟨d1, e3, a7⟩ := bind_some a7
 obtain ⟨c8, e4, a7⟩ := bind_some a7
 refine U1 10 (P0 [mE 17 (vA ([a3])), mE 18 (s0), mE 19 (vP b1), mE 20 (s1), mE 21 (vI a4), mE 22 (vQ f9 g0), mE 23 (vA (Z7 .u8 ((rd a1 a4).1) ++ [vI ((rd a1 a4).2)])), mE 24 (vA ([s2])), (25, MP.rep (R.agg (Y9 yT)) (d1)), (26, MP.rep (R.agg (Y9 yT)) (c8))]) [] mixed rfl rfl rfl hS (Z6 rfl ?_ (Z6 rfl ?_ (Z6 rfl ?_ (Z6 rfl ?_ (Z6 rfl ?_ (Z6 rfl ?_ (Z6 rfl ?_ (Z6 rfl ?_ (Z6 rfl ?_ (Z6 rfl ?_ U7)))))))))) ?_
 exact W5 fun S B => X7 U2 (evT (B 7 rfl) b8) (S.get (mR mL)) rfl rfl (qz S)
 exact W5 fun S B => Z4 (s0) (evT (B 0 rfl) c3) rfl (qz S)
 exact W5 fun S B => Y2 V9 (evT (B 4 rfl) b6) rfl (qz S)
 exact X2 fun S V => Y3 (s1) Q4 (eM (V 2 19 rfl rfl)) (S.get (mR (mR (mR (mR mL))))) rfl rfl (qz S)
 exact W5 fun S B => Z4 (vI a4) (evT (B 8 rfl) b9) rfl (qz S)
 exact X2 fun S V => X9 R7 rfl (eM (V 3 20 rfl rfl)) f1 (eM (V 4 21 rfl rfl)) (by omega) (by omega) rfl (qz S)
 exact E6 fun s S V => W9 (Z7 .u8 ((rd a1 a4).1) ++ [vI ((rd a1 a4).2)]) Zt9 (eM (V 5 22 rfl rfl)) (S.froz _ _ (s.1 _ _ f2)) rfl f3 rfl (qz S)
 exact W5 fun S B => X7 U2 (evT (B 5 rfl) c4) (S.get (mR (mR (mR mL)))) rfl rfl (qz S)
 intro _ _ _ _ e0 hS _ d3 hcq
 have c0 := c0.mono e0
 have b3 := b3.mono e0
 refine X6 Tryz.call258 (G7 (eM (d3 1 18 rfl rfl)) (eM (d3 6 23 rfl rfl)) (eM (d3 7 24 rfl rfl))) rfl (Yw5 e3 c0 b3 hS) ?_
 rintro _ _ _ e5 hS e6
 exact qn e5 rfl hS e6
 intro _ _ _ _ e7 hS _ d4 hcq
 have a9 := a9.mono e7
 obtain ⟨_, f4, ⟨_, rfl, ⟨_, rfl, d5⟩⟩⟩ := gvR (d4 8 25 rfl rfl)
 refine X6 Tryz.call196 (G7 (eM (d4 0 17 rfl rfl)) f4 rfl) rfl (Zw7 e4 a9 d5 hS) ?_
 rintro _ _ _ e8 hS c9
 have c9 := ((R.agg (Y9 yT))).mono (Yc2 _ _) c9
 exact qn e8 rfl hS c9
 intro _ f5 e1 c1 hS b0 e9 hcq
 have hS : St e1 f5 ([(d0, cA ([a3]) 45)] ++ ([(b7, cA ([vN]) 45)] ++ ([(b4, cA ([s2]) 45)] ++ ([(b1, cA ([s1]) 45)] ++ L)))) := hS
 have Z3 := Z3.trans c1
 have c0 := c0.mono c1
 have b2 := b2.mono c1
 have b3 := b3.mono c1
 have e2 := evT (b0 7 rfl) b8
 obtain ⟨_, f6, ⟨_, rfl, ⟨c2, rfl, c6⟩⟩⟩ := gvR (e9 9 26 (by decide) rfl)
 refine X5 (v := vA ([c2])) (vs := ([c2]).toArray) (cs := ([a3]).toArray) U2 (by exact e2) (by exact f6) rfl hS rfl (U0 c6.isOne) rfl ?_
 intro _ hS
 refine Z1 (X4 (Z0 (Z4 (vI a4) (by exact (evT (b0 8 rfl) b9)) rfl ?_)))
 refine W8 (a4 + 1) rfl rfl (IntWalk.i64_in _ (by omega)) rfl (Z5 (vI (a4 + 1)) rfl rfl (Z1 ?_))
 exact f7 _ _ ⟨(a4 + 1), c8, e1, c2, a7, Z3, hS, (by omega), c6, c0, b2, b3, (evT (b0 0 rfl) c3), (evT (b0 4 rfl) b6), (evT (b0 5 rfl) c4), (evT (b0 6 rfl) c5), e2, rfl⟩
 refine Z8 (bF d2 rfl) ?_
 refine W0 rfl ?_
 obtain rfl := oi a7
 exact f8 _ _ ⟨a5, f0, a3, rfl, Z3, hS, a9, b2, b3, c5, b8⟩
 exact ⟨0, ([] : List (A8 × Int)), H, (vN), a7, Z3, hS, (by omega), d7, c0, b2, b3, rfl, rfl, rfl, rfl, rfl, rfl⟩
 rintro _ _ ⟨a8, _, a6, rfl, Z3, hS, b5, b2, b3, c7, d6⟩
 dsimp only [Ex.elim] at d9
 refine Z2 (Z0 ?_)
 refine X7 U2 (by exact d6) (hS.get mL) rfl rfl ?_
 have hS := hS.perm V1
 refine X5 (v := vA ([a6])) (vs := ([a6]).toArray) (cs := ([vN]).toArray) U2 (by exact c7) rfl rfl hS rfl (U0 b5.isOne) rfl ?_
 intro _ hS
 have hS := hS.perm V1.symm
 refine Z1 ?_
 refine X0 (vs := [vA ([a6])]) Tryz.func197 ⟨⟨_, (by exact c7), V6 U2 (hS.get (mR mL)) rfl⟩, trivial⟩ ?_
 obtain rfl := oi d9
 exact ⟨_, _, rfl, Z3, (St.dropA (St.dropA (St.dropA (St.dropA hS)))), ⟨_, rfl, ⟨_, rfl, b5⟩⟩⟩
def K5 (K : Nat) (a0 : ((List Int) × (List MpT))) : Nat → Int → M8 → Option (Ex M8 (M8))
 | 0, _, _ => none
 | k + 1, a1, a5 => (if a1 < (a0.2.length : Int) then ((Ze5 K (rd a0.2 a1)).bind fun c7 => (if a1 < 8 then K5 K a0 k (a1 + 1) (Xm1 a5 a1 c7) else none)) else some (.go a5))
def Zi4 (K : Nat) (a0 : ((List Int) × (List MpT))) : Option M8 := ((K5 K a0 K 0 (fun _ => ([] : MpT))).bind (Ex.elim (fun r => some r) (fun s => (fun (a9 : M8) => some a9) s)))
theorem Ym1 {a0 : ((List Int) × (List MpT))} {r : M8} (q0 : Zi4 K a0 = some r) (e2 : Zn2 (Zp1 (Y9 (Y6 .i64)) (Y9 (Y9 yT))) H s0 a0) (hS : St H w L) :
 Calls Tryz.prog 205 #[s0] w (T2 (fun v G => (R.agg (tyV .i64)).p G v r) H L) := by
 obtain ⟨e3, e4, _, _, _, rfl, d3, ⟨_, _, rfl, ⟨_, rfl, _⟩, ⟨b4, rfl, a3⟩⟩, d4⟩ := e2
 have Z3 := Sub.refl H
 refine X3 Tryz.func205 rfl Tryz.ntmps205 rfl ?_
 unfold Zi4 at q0
 refine Z2 (Z0 ?_)
 have b1 : RdV .i64 H Zr5 (fun _ => ([] : MpT)) := RdV.nil
 refine W6 (z := vA (L5 Zr5)) (L5 Zr5).toArray Wf0.zero rfl hS rfl ?_
 intro b2 _ hS
 refine Z1 (Z2 (Z0 ?_))
 have d2 : RdV .i64 H Zr5 (fun _ => ([] : MpT)) := RdV.nil
 refine R6 (vA (L5 Zr5)) Vg8 rfl ?_
 have e9 : RdV .i64 H Zr5 (fun _ => ([] : MpT)) := RdV.nil
 refine W6 (z := vA (L5 Zr5)) (L5 Zr5).toArray Wf0.zero rfl hS rfl ?_
 intro b7 _ hS
 refine X5 (v := vA (L5 Zr5)) (vs := (L5 Zr5).toArray) (cs := (L5 Zr5).toArray) Xj1 rfl rfl rfl hS rfl (Yt9 d2) rfl ?_
 intro _ hS
 refine Z1 (Z2 (Z2 (Z0 (Z4 (vQ e3 e4) rfl rfl (R9 rfl rfl (Y2 P2 rfl rfl ?_))))))
 refine Y3 (b4) Zd6 rfl (hS.froz _ _ d3) (d4 1 (show 1 < 2 by decide)) rfl ?_
 have e8 := a3.bound
 refine W7 P6 rfl a3 rfl (Z4 (vI 0) rfl rfl (Z1 (Y7 ?_)))
 obtain ⟨c8, a6, c9⟩ := bind_some q0
 refine W1 (id := 0) (fun k f w => ∃ (a1 : Int) (a5 : M8) (H1 : FH) (a4 : V8), K5 K a0 k a1 a5 = some c8 ∧ Sub H H1 ∧ St H1 w ([(b7, cA (L5 a4) 237)] ++ ([(b2, cA (L5 Zr5) 237)] ++ L)) ∧ 0 ≤ a1 ∧ RdV .i64 H1 a4 a5 ∧ RdV .i64 H1 Zr5 (fun _ => ([] : MpT)) ∧ Z9 (Y9 yT) H1 b4 a0.2 ∧ tv f 2 = vP b2 ∧ tv f 3 = vP b7 ∧ tv f 10 = b4 ∧ tv f 11 = vI (a0.2.length : Int) ∧ tv f 12 = vI a1) (fun f w => ∃ (a9 : M8) (H1 : FH) (a7 : V8), c8 = .go a9 ∧ Sub H H1 ∧ St H1 w ([(b7, cA (L5 a7) 237)] ++ ([(b2, cA (L5 Zr5) 237)] ++ L)) ∧ RdV .i64 H1 a7 a9 ∧ RdV .i64 H1 Zr5 (fun _ => ([] : MpT)) ∧ tv f 2 = vP b2 ∧ tv f 3 = vP b7) rfl ?_ ?_ K ?_ ?_
 rintro f w ⟨a1, a5, H1, a4, a6, _⟩
 rw [K5] at a6; cases a6
 rintro k _ _ e5 e6 ⟨a1, a5, d5, a4, a6, Z3, hS, _, a8, b1, a3, b9, b3, b5, b6, b0⟩
 rw [K5] at a6
 refine Z2 (Z0 ?_)
 refine V5 (k := .i64) (a := a1) (b := (a0.2.length : Int)) (by exact b0) (by exact b6) rfl (Z1 (Z2 ?_))
 obtain ⟨c5, a6⟩ | ⟨c5, a6⟩ := ic a6
 refine Y0 (bT c5 rfl) (Y8 (Z2 (Y7 (Z2 (Z0 (Z4 (vI a1) (by exact b0) rfl ?_))))))
 obtain ⟨_, _, _, _, _, d6, d7, ⟨c1, rfl, c4⟩, d8⟩ := a3.elem (i := a1) (by omega) (by omega)
 refine X9 P6 rfl (by exact b5) d6 (by exact b0) (by omega) (by omega) rfl ?_
 refine W9 ([c1]) U2 rfl (hS.froz _ _ d7) rfl d8 rfl ?_
 refine W6 (z := vA ([vN])) ([vN]).toArray I0.zero rfl hS rfl ?_
 intro _ _ hS
 refine Z5 (vI a1) rfl rfl ?_
 refine X5 (v := vA ([c1])) (vs := ([c1]).toArray) (cs := ([vN]).toArray) U2 rfl rfl rfl hS rfl (U0 c4.isOne) rfl ?_
 intro _ hS
 refine Z1 (Z0 (Z4 (vI a1) rfl rfl ?_))
 refine X7 U2 rfl (hS.get mL) rfl rfl ?_
 obtain ⟨c7, d9, a6⟩ := bind_some a6
 refine T5 Tryz.call110 (S2 rfl) rfl (Zj2 d9 c4 hS) ?_
 rintro _ _ ⟨d0, _, _, rfl, c2, hS, e0⟩
 refine ⟨_, rfl, ?_⟩
 have Z3 := Z3.trans c2
 have a3 := a3.mono c2
 have b1 := b1.mono c2
 have a8 := a8.mono c2
 obtain ⟨_, a6⟩ := gd a6
 refine V2 Wt6 (by exact b3) rfl (by omega) (by omega) rfl ?_
 obtain ⟨e7, c3, hS, d1⟩ := e0.freeze hS
 have Z3 := Z3.trans c3
 have a3 := a3.mono c3
 have b1 := b1.mono c3
 have a8 := a8.mono c3
 have hS := hS.perm V1
 have e1 := RdV.upd a8 (a1) d1
 refine Zb3 (v := d0) (cs := (L5 a4).toArray) (cs' := (L5 (Xy2 a4 a1 d0)).toArray) Xi8 rfl rfl hS d1.isOne rfl (by simp [Z7, L5]; omega) (Wp8 (by omega) (by omega)) ?_
 intro _ hS
 have hS := hS.perm V1.symm
 refine Z1 (X4 (Z0 ?_))
 refine W8 (a1 + 1) (by exact b0) rfl (IntWalk.i64_in _ (by omega)) rfl (Z4 (vI (a1 + 1)) rfl rfl (Z1 ?_))
 have hS := St.dropA hS
 exact e5 _ _ ⟨(a1 + 1), (Xm1 a5 a1 c7), e7, (Xy2 a4 a1 d0), a6, Z3, hS, (by omega), e1, b1, a3, b9, b3, b5, b6, rfl⟩
 refine Z8 (bF c5 rfl) ?_
 refine W0 rfl ?_
 obtain rfl := oi a6
 exact e6 _ _ ⟨a5, d5, a4, rfl, Z3, hS, a8, b1, b9, b3⟩
 exact ⟨0, (fun _ => ([] : MpT)), H, Zr5, a6, Z3, hS, (by omega), d2, b1, a3, rfl, rfl, rfl, rfl, rfl⟩
 rintro _ _ ⟨a9, _, a7, rfl, Z3, hS, b8, b1, c0, c6⟩
 dsimp only [Ex.elim] at c9
 refine Z2 (Z0 ?_)
 refine X7 Xj1 (by exact c6) (hS.get mL) rfl rfl ?_
 have hS := hS.perm V1
 refine X5 (v := vA (L5 a7)) (vs := (L5 a7).toArray) (cs := (L5 Zr5).toArray) Xj1 (by exact c0) rfl rfl hS rfl (Yt9 b8) rfl ?_
 intro _ hS
 have hS := hS.perm V1.symm
 refine Z1 ?_
 refine X0 (vs := [vA (L5 a7)]) Tryz.func205 ⟨⟨_, (by exact c0), V6 Xj1 (hS.get (mR mL)) rfl⟩, trivial⟩ ?_
 obtain rfl := oi c9
 exact ⟨_, _, rfl, Z3, (St.dropA (St.dropA hS)), ⟨_, rfl, ⟨_, rfl, b8⟩⟩⟩
def C7 (K : Nat) (a0 : (List Int)) (r5 : MpT) : Nat → Int → (List Int) → Option (Ex (List Int) ((List Int)))
 | 0, _, _ => none
 | k + 1, a4, a3 => (if a4 < (a0.length : Int) then ((G8 K a4).bind fun b6 => (if a3.length + ([(Q1 r5 b6)]).length ≤ 1099511627776 then C7 K a0 r5 k (a4 + 1) (a3 ++ [(Q1 r5 b6)]) else none)) else some (.go a3))
def Zq3 (K : Nat) (a0 : (List Int)) (a1 : MpT) : Option (List Int) := ((Ze5 K a1).bind fun r5 => ((C7 K a0 r5 K 0 ([] : List Int)).bind (Ex.elim (fun r => some r) (fun s => (fun (b0 : (List Int)) => some b0) s))))
theorem Yw0 {a0 : (List Int)} {a1 : MpT} {r : (List Int)} (q0 : Zq3 K a0 a1 = some r) (c4 : Z9 (Y6 .i64) H s0 a0) (b2 : Z9 yT H s1 a1) (hS : St H w L) :
 Calls Tryz.prog 274 #[s0, vA ([s1])] w (T2 (fun v G => (R.sl (Y6 .i64)).p G v r) H L) := by
 have Z3 := Sub.refl H
 refine X3 Tryz.func274 rfl Tryz.ntmps274 rfl ?_
 unfold Zq3 at q0
 refine Z2 (Z0 ?_)
 refine S3 (v := vA ([s1])) ([s1]).toArray rfl rfl hS rfl ?_
 intro b1 _ hS
 refine Z5 (vN) rfl rfl (Z1 (Z2 (Z0 ?_)))
 refine X7 U2 rfl (hS.get mL) rfl rfl ?_
 obtain ⟨r5, d8, q0⟩ := bind_some q0
 refine T5 Tryz.call110 (S2 rfl) rfl (Zj2 d8 b2 hS) ?_
 rintro _ _ ⟨m5, H5, C5, rfl, c6, hS, b4⟩
 refine ⟨_, rfl, ?_⟩
 have Z3 := Z3.trans c6
 have c4 := c4.mono c6
 have b2 := b2.mono c6
 refine Zq2 (τ := (Y6 .i64)) Q0 ze2 rfl hS rfl ?_
 intro u8 _ d9 d0 hS
 refine Z5 (m5) rfl rfl (Z5 (u8) rfl rfl (Z1 (Z2 (Z2 (Z0 (Z4 (s0) rfl rfl ?_))))))
 have e4 := c4.bound
 refine W7 Q0 rfl c4 rfl (Z4 (vI 0) rfl rfl (Z1 (Y7 ?_)))
 obtain ⟨c7, a6, c8⟩ := bind_some q0
 refine W1 (id := 0) (fun k f w => ∃ (a4 : Int) (a3 : (List Int)) (H1 : FH) (a9 : OL) (a7 : Value), C7 K a0 r5 k a4 a3 = some c7 ∧ Sub H H1 ∧ St H1 w (a9 ++ (C5 ++ ([(b1, cA ([s1]) 45)] ++ L))) ∧ 0 ≤ a4 ∧ W3 (Y6 .i64) 2 H1 a7 a3 a9 ∧ Z9 yT H1 s1 a1 ∧ P7 .i64 m5 r5 C5 ∧ tv f 5 = m5 ∧ tv f 6 = a7 ∧ tv f 12 = vI (a0.length : Int) ∧ tv f 13 = vI a4) (fun f w => ∃ (b0 : (List Int)) (H1 : FH) (b3 : OL) (a8 : Value), c7 = .go b0 ∧ Sub H H1 ∧ St H1 w (b3 ++ (C5 ++ ([(b1, cA ([s1]) 45)] ++ L))) ∧ W3 (Y6 .i64) 2 H1 a8 b0 b3 ∧ Z9 yT H1 s1 a1 ∧ P7 .i64 m5 r5 C5 ∧ tv f 6 = a8) rfl ?_ ?_ K ?_ ?_
 rintro f w ⟨a4, a3, H1, a9, a7, a6, _⟩
 rw [C7] at a6; cases a6
 rintro k _ _ e0 e1 ⟨a4, a3, d1, a9, a7, a6, Z3, hS, _, a5, b2, b4, b8, b9, b7, b5⟩
 rw [C7] at a6
 refine Z2 (Z0 ?_)
 refine V5 (k := .i64) (a := a4) (b := (a0.length : Int)) (by exact b5) (by exact b7) rfl (Z1 (Z2 ?_))
 obtain ⟨c3, a6⟩ | ⟨c3, a6⟩ := ic a6
 refine Y0 (bT c3 rfl) (Y8 (Z2 (Y7 (Z2 (Z0 (Z4 (vI a4) (by exact b5) rfl (Z5 (vI a4) rfl rfl (Z1 (Z0 (Z4 (a7) (by exact b9) rfl (Z4 (m5) (by exact b8) rfl (Z4 (vI a4) rfl rfl ?_))))))))))))
 obtain ⟨b6, d2, a6⟩ := bind_some a6
 refine X6 Tryz.call251 (S2 rfl) rfl (Zd8 d2  hS) ?_
 rintro _ _ _ c0 hS ⟨_, rfl, rfl⟩
 have Z3 := Z3.trans c0
 have b2 := b2.mono c0
 have b4 := b4.mono c0
 have a5 := a5.mono c0
 have hS := hS.perm V1
 refine Yx6 (a := b6) Zi9 rfl rfl b4 hS rfl ?_
 have hS := hS.perm V1.symm
 refine D9 (τ := (Y6 .i64)) Q0 ze2 rfl [vI (Q1 r5 b6)] [(Q1 r5 b6)] rfl rfl (K6 rfl) (Zi6 rfl) (by decide) (by decide) hS rfl ?_
 intro _ e2 _ c1 hS d3
 have Z3 := Z3.trans c1
 have b2 := b2.mono c1
 have b4 := b4.mono c1
 have a5 := a5.mono c1
 obtain ⟨d4, a6⟩ := gd a6
 refine N5 (τ := (Y6 .i64)) Xd5 rfl rfl rfl a5 hS d3 d4 rfl ?_
 intro c9 _ e3 d5 hS
 refine Z5 (c9) rfl rfl (Z1 (X4 (Z0 ?_)))
 refine W8 (a4 + 1) (by exact b5) rfl (IntWalk.i64_in _ (by omega)) rfl (Z4 (vI (a4 + 1)) rfl rfl (Z1 ?_))
 exact e0 _ _ ⟨(a4 + 1), (a3 ++ [(Q1 r5 b6)]), e2, e3, c9, a6, Z3, hS, (by omega), d5, b2, b4, b8, rfl, b7, rfl⟩
 refine Z8 (bF c3 rfl) ?_
 refine W0 rfl ?_
 obtain rfl := oi a6
 exact e1 _ _ ⟨a3, d1, a9, a7, rfl, Z3, hS, a5, b2, b4, b9⟩
 exact ⟨0, ([] : List Int), H5, d9, u8, a6, Z3, hS, (by omega), d0, b2, b4, rfl, rfl, rfl, rfl⟩
 rintro _ _ ⟨b0, _, b3, a8, rfl, Z3, hS, c2, b2, b4, c5⟩
 dsimp only [Ex.elim] at c8
 refine Z2 (Z0 (Z4 (a8) (by exact c5) rfl (Z5 (a8) rfl rfl (Z1 ?_))))
 refine X0 (vs := [a8]) Tryz.func274 ⟨rfl, trivial⟩ ?_
 obtain ⟨_, d6, hS, d7⟩ := c2.freeze hS
 have Z3 := Z3.trans d6
 obtain rfl := oi c8
 exact ⟨_, _, rfl, Z3, (St.dropA (St.dropA hS)), d7⟩
def Zc8 (K : Nat) (a0 : MpT) : Nat → Int → MpT → Option (Ex MpT (MpT))
 | 0, _, _ => none
 | k + 1, a1, a3 => (if a1 < (a0.length : Int) then ((Zx5 K ((rd a0 a1).1, (rd a0 a1).2)).bind fun b3 => (if a1 < (a3.length : Int) then Zc8 K a0 k (a1 + 1) (a3.set (a1).toNat (b3.1, b3.2)) else none)) else some (.go a3))
def Zv3 (K : Nat) (a0 : MpT) : Option MpT := (if (a0.length : Int) ≤ 1099511627776 then ((Zc8 K a0 K 0 (List.replicate ((a0.length : Int)).toNat (((fun _ => 0), 0) : (A8 × Int)))).bind (Ex.elim (fun r => some r) (fun s => (fun (a8 : MpT) => some a8) s))) else none)
theorem Xc1 {a0 : MpT} {r : MpT} (q0 : Zv3 K a0 = some r) (b1 : Z9 yT H s0 a0) (hS : St H w L) :
 Calls Tryz.prog 92 #[s0] w (T2 (fun v G => (R.sl yT).p (G.new H) v r) H L) := by
 have Z3 := Sub.refl H
 refine X3 Tryz.func92 rfl Tryz.ntmps92 rfl ?_
 unfold Zv3 at q0
 refine Z2 (Z0 (Z5 (vN) rfl rfl (Z1 (Z2 (Z0 (Z4 (s0) rfl rfl ?_))))))
 have d8 := b1.bound
 refine W7 Wf8 rfl b1 rfl ?_
 obtain ⟨_, q0⟩ := gd q0
 refine Xh8 (τ := yT) (((fun _ => 0), 0) : (A8 × Int)) Yw2 rfl rfl rfl (fun _ => ⟨_, _, rfl, rfl, rfl⟩) (by omega) (by omega) hS rfl ?_
 intro u3 _ C5 d1 hS
 refine Z5 (u3) rfl rfl (Z1 (Z2 (Z2 (Z0 (Z5 (vI 0) rfl rfl (Z1 (Y7 ?_)))))))
 obtain ⟨c0, a5, c1⟩ := bind_some q0
 refine W1 (id := 0) (fun k f w => ∃ (a1 : Int) (a3 : MpT) (H1 : FH) (a9 : OL) (a4 : Value), Zc8 K a0 k a1 a3 = some c0 ∧ Sub H H1 ∧ St H1 w (a9 ++ L) ∧ 0 ≤ a1 ∧ W3 yT 78 H1 a4 a3 a9 ∧ Z9 yT H1 s0 a0 ∧ tv f 0 = s0 ∧ tv f 3 = a4 ∧ tv f 4 = vI a1) (fun f w => ∃ (a8 : MpT) (H1 : FH) (b2 : OL) (a6 : Value), c0 = .go a8 ∧ Sub H H1 ∧ St H1 w (b2 ++ L) ∧ W3 yT 78 H1 a6 a8 b2 ∧ tv f 3 = a6) rfl ?_ ?_ K ?_ ?_
 rintro f w ⟨a1, a3, H1, a9, a4, a5, _⟩
 rw [Zc8] at a5; cases a5
 rintro k _ _ d2 d3 ⟨a1, a3, c4, a9, a4, a5, Z3, hS, _, a7, b1, b4, b5, b0⟩
 rw [Zc8] at a5
 refine Z2 (Z2 (Z0 (Z4 (vI a1) (by exact b0) rfl (Z4 (s0) (by exact b4) rfl ?_))))
 have d9 := b1.bound
 refine W7 Wf8 rfl b1 rfl ?_
 refine V5 (k := .i64) (a := a1) (b := (a0.length : Int)) rfl rfl rfl (Z1 ?_)
 obtain ⟨c2, a5⟩ | ⟨c2, a5⟩ := ic a5
 refine Y0 (bT c2 rfl) (Y8 (Z2 (Y7 (Z0 (Z4 (a4) (by exact b5) rfl (Z4 (vI a1) (by exact b0) rfl (Z4 (s0) (by exact b4) rfl (Z4 (vI a1) (by exact b0) rfl ?_))))))))
 obtain ⟨_, _, _, _, _, c5, c6, ⟨_, _, rfl, rfl, rfl⟩, c7⟩ := b1.elem (i := a1) (by omega) (by omega)
 refine X9 Wf8 rfl rfl c5 rfl (by omega) (by omega) rfl ?_
 refine W9 (Z7 .u8 ((rd a0 a1).1) ++ [vI ((rd a0 a1).2)]) Vh7 rfl (hS.froz _ _ c6) rfl c7 rfl ?_
 obtain ⟨b3, c8, a5⟩ := bind_some a5
 refine X6 Tryz.call167 (S2 rfl) rfl (Xe8 c8  hS) ?_
 rintro _ d4 _ b8 hS ⟨_, rfl, ⟨_, _, rfl, rfl, rfl⟩⟩
 have Z3 := Z3.trans b8
 have b1 := b1.mono b8
 have a7 := a7.mono b8
 obtain ⟨_, a5⟩ := gd a5
 obtain ⟨_, _, c3⟩ := a7.some (i := a1) (by omega) (by omega)
 refine Zw4 R7 (Eq.trans rfl c3) rfl (by omega) (by omega) rfl ?_
 refine Zw2 (τ := yT) (v := a4) (u := vA (Z7 .u8 b3.1 ++ [vI b3.2])) (b3.1, b3.2) (i := a1) rfl Zt9 c3 a7 hS rfl rfl (by omega) (by omega) ⟨_, _, rfl, rfl, rfl⟩ ?_
 intro _ d5 c9 hS
 refine Z1 (X4 (Z0 (Z4 (vI a1) (by exact b0) rfl ?_)))
 refine W8 (a1 + 1) rfl rfl (IntWalk.i64_in _ (by omega)) rfl (Z5 (vI (a1 + 1)) rfl rfl (Z1 ?_))
 exact d2 _ _ ⟨(a1 + 1), (a3.set (a1).toNat (b3.1, b3.2)), d4, d5, a4, a5, Z3, hS, (by omega), c9, b1, b4, b5, rfl⟩
 refine Z8 (bF c2 rfl) ?_
 refine W0 rfl ?_
 obtain rfl := oi a5
 exact d3 _ _ ⟨a3, c4, a9, a4, rfl, Z3, hS, a7, b5⟩
 exact ⟨0, (List.replicate ((a0.length : Int)).toNat (((fun _ => 0), 0) : (A8 × Int))), H, C5, u3, a5, Z3, hS, (by omega), d1, b1, rfl, rfl, rfl⟩
 rintro _ _ ⟨a8, _, b2, a6, rfl, Z3, hS, b7, b9⟩
 dsimp only [Ex.elim] at c1
 refine Z2 (Z0 (Z4 (a6) (by exact b9) rfl (Z5 (a6) rfl rfl (Z1 ?_))))
 refine X0 (vs := [a6]) Tryz.func92 ⟨rfl, trivial⟩ ?_
 obtain ⟨d6, d0, hS, b6⟩ := W3.freezeF (τ := yT) (H0 := H) b7 hS Z3
 have d7 := Z9.old b6
 have b6 : RdF yT H d6 a6 a8 := b6
 have Z3 := Z3.trans d0
 obtain rfl := oi c1
 exact ⟨_, _, rfl, Z3, hS, b6⟩
def Zo5 (K : Nat) (a0 : (List Int)) (a1 : MpT) (a2 : Int) : Option Bool := ((Zy6 K a0 a1).bind fun r4 => (if r4.2 = true then (if r4.1 = (-1) then some true else some (decide (r4.1 = a2))) else some false))
theorem Yu3 {a0 : (List Int)} {a1 : MpT} {a2 : Int} {r : Bool} (q0 : Zo5 K a0 a1 a2 = some r) (a5 : Z9 (Y6 .i64) H s0 a0) (a6 : Z9 yT H s1 a1) (hS : St H w L) :
 Calls Tryz.prog 122 #[s0, vA ([s1]), vI a2] w (T2 (fun v G => R.bool.p G v r) H L) := by
 have Z3 := Sub.refl H
 refine X3 Tryz.func122 rfl Tryz.ntmps122 rfl ?_
 unfold Zo5 at q0
 refine Z2 (Z0 ?_)
 refine S3 (v := vA ([s1])) ([s1]).toArray rfl rfl hS rfl ?_
 intro _ _ hS
 refine Z5 (vB false) rfl rfl (Z1 (Z2 (Z0 (Z4 (s0) rfl rfl ?_))))
 refine X7 U2 rfl (hS.get mL) rfl rfl ?_
 obtain ⟨r4, a7, q0⟩ := bind_some q0
 refine X6 Tryz.call127 (U9 rfl rfl) rfl (Yx0 a7 a5 a6 hS) ?_
 rintro _ _ _ a8 hS ⟨_, _, rfl, rfl, rfl⟩
 have Z3 := Z3.trans a8
 refine Z4 (Value.tuple #[vI r4.1, vB r4.2]) rfl rfl (W4 (vI r4.1) rfl rfl rfl (W4 (vB r4.2) rfl rfl rfl (Z5 (vI r4.1) rfl rfl (Z5 (vB r4.2) rfl rfl (Z1 (Z2 (Z0 (Z4 (vB r4.2) rfl rfl (Z4 (vB r4.2) rfl rfl ?_)))))))))
 obtain ⟨a3, q0⟩ | ⟨a3, q0⟩ := ic q0
 refine Y4 rfl rfl (Eq.trans rfl (congrArg vB a3)) (Z4 (vI r4.1) rfl rfl ?_)
 refine Y4 rfl rfl (Eq.trans rfl (congrArg vB a3)) ?_
 refine Zc2 (k := .i64) (a := r4.1) (b := (-1)) rfl rfl rfl ?_
 refine Y4 rfl rfl (Eq.trans rfl (congrArg vB a3)) (Z4 (vB (decide (r4.1 = (-1)))) rfl rfl ?_)
 obtain ⟨a4, q0⟩ | ⟨a4, q0⟩ := ic q0
 refine Y1 rfl rfl (bT a4 rfl) rfl rfl rfl (Y1 rfl rfl (bT a4 rfl) rfl rfl rfl (Y1 rfl rfl (bT a4 rfl) rfl rfl rfl ?_))
 refine Y4 rfl rfl (Eq.trans rfl (congrArg vB a3)) ?_
 refine V0 (t := true) (vB true) (bT a4 rfl) ((if_pos rfl).trans rfl) rfl ?_
 refine V0 (t := true) (vB true) (Eq.trans rfl (congrArg vB a3)) ((if_pos rfl).trans rfl) rfl (Z5 (vB true) rfl rfl (Z1 ?_))
 refine X0 (vs := [vB true]) Tryz.func122 ⟨rfl, trivial⟩ ?_
 obtain rfl := oi q0
 exact ⟨_, _, rfl, Z3, (St.dropA hS), rfl⟩
 refine Y4 rfl rfl (bF a4 rfl) (Z4 (vI r4.1) rfl rfl ?_)
 refine Y4 rfl rfl (bF a4 rfl) (Z4 (vI a2) rfl rfl ?_)
 refine Y4 rfl rfl (bF a4 rfl) ?_
 refine Zc2 (k := .i64) (a := r4.1) (b := a2) rfl rfl rfl ?_
 refine Y4 rfl rfl (Eq.trans rfl (congrArg vB a3)) ?_
 refine V0 (t := false) (vB (decide (r4.1 = a2))) (bF a4 rfl) ((if_neg Bool.false_ne_true).trans rfl) rfl ?_
 refine V0 (t := true) (vB (decide (r4.1 = a2))) (Eq.trans rfl (congrArg vB a3)) ((if_pos rfl).trans rfl) rfl (Z5 (vB (decide (r4.1 = a2))) rfl rfl (Z1 ?_))
 refine X0 (vs := [vB (decide (r4.1 = a2))]) Tryz.func122 ⟨rfl, trivial⟩ ?_
 obtain rfl := oi q0
 exact ⟨_, _, rfl, Z3, (St.dropA hS), rfl⟩
 refine Y1 rfl rfl (Eq.trans rfl (congrArg vB (X8 a3))) rfl rfl rfl (Y1 rfl rfl (Eq.trans rfl (congrArg vB (X8 a3))) rfl rfl rfl (Y1 rfl rfl (Eq.trans rfl (congrArg vB (X8 a3))) rfl rfl rfl ?_))
 refine U6 rfl rfl rfl rfl rfl ?_
 refine U6 rfl rfl rfl rfl rfl ?_
 refine U6 rfl rfl rfl rfl rfl (Y1 rfl rfl (Eq.trans rfl (congrArg vB (X8 a3))) rfl rfl rfl ?_)
 refine V0 (t := false) (vB false) (Eq.trans rfl (congrArg vB (X8 a3))) ((if_neg Bool.false_ne_true).trans rfl) rfl (Z5 (vB false) rfl rfl (Z1 ?_))
 refine X0 (vs := [vB false]) Tryz.func122 ⟨rfl, trivial⟩ ?_
 obtain rfl := oi q0
 exact ⟨_, _, rfl, Z3, (St.dropA hS), rfl⟩
def Zl1 (K : Nat) (a0 : Int) : Option MpT := (if 0 ≤ a0 then (if a0 < 8 then ((F0 K (S6 (fun _ => 0) a0 1) 1).bind fun a6 => some a6) else none) else none)
theorem Yp2 {a0 : Int} {r : MpT} (q0 : Zl1 K a0 = some r) (hS : St H w L) :
 Calls Tryz.prog 242 #[vI a0] w (T2 (fun v G => (R.agg (Y9 yT)).p G v r) H L) := by
 have Z3 := Sub.refl H
 refine X3 Tryz.func242 rfl Tryz.ntmps242 rfl ?_
 unfold Zl1 at q0
 refine Z2 (Z0 ?_)
 refine W6 (z := vA ([vN])) ([vN]).toArray I0.zero rfl hS rfl ?_
 intro _ _ hS
 refine Z1 (Z2 (Z0 ?_))
 refine R6 (vA (Z7 .u8 (fun _ => 0))) Yx8 rfl ?_
 refine W6 (z := vA (Z7 .u8 (fun _ => 0))) (Z7 .u8 (fun _ => 0)).toArray Yf9.zero rfl hS rfl ?_
 intro _ _ hS
 refine X5 (v := vA (Z7 .u8 (fun _ => 0))) (vs := (Z7 .u8 (fun _ => 0)).toArray) (cs := (Z7 .u8 (fun _ => 0)).toArray) M2 rfl rfl rfl hS rfl (S4 .u8 (fun _ => 0)) rfl ?_
 intro _ hS
 refine Z1 (Z2 (Z0 (Z4 (vI a0) rfl rfl ?_)))
 obtain ⟨_, q0⟩ := gd q0
 obtain ⟨_, q0⟩ := gd q0
 refine V2 Zd9 rfl rfl (by omega) (by omega) rfl ?_
 refine Zb1 (v := Value.int .u8 1) (cs := (Z7 .u8 (fun _ => 0)).toArray) (cs' := (Z7 .u8 (S6 (fun _ => 0) a0 1)).toArray) ty5 rfl rfl hS rfl (Yb6 rfl) (by simp [Z7, L5]; omega) (Zj1 (by omega) (by omega)) ?_
 intro _ hS
 refine Z1 (Z2 (Z0 ?_))
 refine X7 M2 rfl (hS.get mL) rfl rfl ?_
 obtain ⟨_, a4, q0⟩ := bind_some q0
 refine X6 Tryz.call208 (U9 rfl rfl) rfl (Zl2 a4  hS) ?_
 rintro _ _ _ a5 hS ⟨_, rfl, ⟨a1, rfl, a3⟩⟩
 have Z3 := Z3.trans a5
 have hS := hS.perm V1
 refine X5 (v := vA ([a1])) (vs := ([a1]).toArray) (cs := ([vN]).toArray) U2 rfl rfl rfl hS rfl (U0 a3.isOne) rfl ?_
 intro _ hS
 have hS := hS.perm V1.symm
 refine Z1 ?_
 refine X0 (vs := [vA ([a1])]) Tryz.func242 ⟨⟨_, rfl, V6 U2 (hS.get (mR mL)) rfl⟩, trivial⟩ ?_
 obtain rfl := oi q0
 exact ⟨_, _, rfl, Z3, (St.dropA (St.dropA hS)), ⟨_, rfl, ⟨_, rfl, a3⟩⟩⟩
end Go.Proofs.YtabofnehiclkiaaGreat
