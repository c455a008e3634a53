/- Walks of functions: each computes its pure function, if that gives a value. -/
import Derived.Test.YtfodlhkoafhplaaGreatTF7
import Derived.Test.YtfodlhkoafhplaaGreatTTy
import Derived.Test.YtfodlhkoafhplaaGreatTF4
import Derived.Test.YtfodlhkoafhplaaGreatTF8
import Derived.Test.YtfodlhkoafhplaaGreatTF5
import Derived.Test.YtfodlhkoafhplaaGreatTF6
namespace Go.Proofs.YtfodlhkoafhplaaGreat
open Go
set_option linter.unusedSimpArgs false
set_option linter.unusedVariables false
set_option maxRecDepth 100000
set_option maxHeartbeats 8000000
instance : DecidableEq A8 := fun a b => decidable_of_iff _ (Zg2 (a := a) (b := b))
theorem Xf3 (K : Nat) (x : Int) : Zk0 K x = some (x % 10007) := by
 unfold Zk0
 have h1 : -10007 < x.tmod 10007 ∧ x.tmod 10007 < 10007 := by
  constructor
  have := Int.tmod_lt_of_pos (-x) (show (0 : Int) < 10007 by decide)
  rw [Int.neg_tmod] at this; omega
  exact Int.tmod_lt_of_pos x (by decide)
 rw [IntWalk.i64_in _ (by omega)]
 congr 1
 rw [Int.tmod_eq_emod_of_nonneg (by omega)]
 rw [Int.add_emod_right]
 rcases Int.emod_two_eq x with _ | _ <;> (rw [Int.tmod_eq_emod]; split <;> omega)
def Zt7 (s : MpT) (p : A8) (f : Int) : MpT := if (R6 s p + f) % 10007 = 0 then Zi3 s p else I9 s p ((R6 s p + f) % 10007)
theorem Yg1 {s : MpT} (h : nfm s = true) (a : A8) : 0 ≤ R6 s a ∧ R6 s a ≤ 10006 := by
 by_cases hm : a ∈ s.map Prod.fst
 obtain ⟨⟨b, x⟩, hp, rfl⟩ := List.mem_map.1 hm
 rw [Yo7 (Zz2 (P3 h)) hp]
 have := Zr2 h _ hp
 simp only at this ⊢; omega
 rw [Zp8 hm]; omega
theorem Yn8 {K : Nat} {s : MpT} {p : A8} {f : Int} (h : nfm s = true ∧ -4611686018427387904 ≤ f ∧ f ≤ 4611686018427387904) : T7 K s p f = some (Zt7 s p f) := by
 unfold T7 Zt7
 rw [if_pos h]
 have hb := Yg1 h.1 p
 rw [IntWalk.i64_in _ (by omega), Xf3]
 simp only [Option.bind_some]
 split <;> rfl
theorem Zu3 {s : MpT} {a : A8} {q : A8 × Int} : q ∈ Zi3 s a ↔ q ∈ s ∧ q.1 ≠ a := by
 unfold Zi3
 rw [List.mem_filter]
 constructor
 rintro ⟨h1, h2⟩
 refine ⟨h1, fun e => ?_⟩
 rw [e, Zg2.2 rfl] at h2; simp at h2
 rintro ⟨h1, h2⟩
 refine ⟨h1, ?_⟩
 cases e : eq8 a q.1 with
 | false => rfl
 | true => exact absurd (Zg2.1 e).symm h2
theorem Yi3 {s : MpT} {a : A8} {x : Int} {q : A8 × Int} : q ∈ I9 s a x ↔ q = (a, x) ∨ q ∈ s ∧ q.1 ≠ a := by
 unfold I9
 rw [(Zq4 _ _).mem_iff, List.mem_cons, Zu3]
theorem Zh7 {s : MpT} (h : nfm s = true) (p : A8) (f : Int) : nfm (Zt7 s p f) = true := by
 unfold Zt7
 split
 exact Ya2 (Yq1 (P3 h) p) (fun q hq => Zr2 h q (Zu3.1 hq).1)
 refine Ya2 (Yo4 (P3 h) p _) (fun q hq => ?_)
 rcases Yi3.1 hq with rfl | hq
 simp only; omega
 exact Zr2 h q hq.1
theorem Zx4 {s : MpT} (hs : Srt s) {a : A8} {x : Int} (h : (a, x) ∈ s) : R6 s a = x := Yo7 (Zz2 hs) h
theorem Zw5 {s : MpT} (h : nfm s = true) (p : A8) (f : Int) (a : A8) : R6 (Zt7 s p f) a = if a = p then (R6 s p + f) % 10007 else R6 s a := by
 have hs := P3 h
 have h' := P3 (Zh7 h p f)
 unfold Zt7 at h' ⊢
 split
 rename_i h0
 rw [if_pos h0] at h'
 by_cases e : a = p
 subst e
 rw [if_pos rfl, h0, Zp8]
 intro hm
 obtain ⟨q, hq, e⟩ := List.mem_map.1 hm
 exact (Zu3.1 hq).2 e
 rw [if_neg e]
 by_cases hm : a ∈ s.map Prod.fst
 obtain ⟨⟨b, x⟩, hq, rfl⟩ := List.mem_map.1 hm
 rw [Zx4 hs hq, Zx4 h' (Zu3.2 ⟨hq, e⟩)]
 rw [Zp8 hm, Zp8]
 intro hm'
 obtain ⟨q, hq, rfl⟩ := List.mem_map.1 hm'
 exact hm (List.mem_map.2 ⟨q, (Zu3.1 hq).1, rfl⟩)
 rename_i h0
 rw [if_neg h0] at h'
 by_cases e : a = p
 subst e
 rw [if_pos rfl, Zx4 h' (Yi3.2 (.inl rfl))]
 rw [if_neg e]
 by_cases hm : a ∈ s.map Prod.fst
 obtain ⟨⟨b, x⟩, hq, rfl⟩ := List.mem_map.1 hm
 rw [Zx4 hs hq, Zx4 h' (Yi3.2 (.inr ⟨hq, e⟩))]
 rw [Zp8 hm, Zp8]
 intro hm'
 obtain ⟨q, hq, rfl⟩ := List.mem_map.1 hm'
 rcases Yi3.1 hq with rfl | hq
 exact e rfl
 exact hm (List.mem_map.2 ⟨q, hq.1, rfl⟩)
/-- two sums in normal form are the same if they have the same factors -/
theorem Xc4 {s t : MpT} (hs : nfm s = true) (ht : nfm t = true) (h : ∀ a, R6 s a = R6 t a) : s = t := by
 have key : ∀ {s t : MpT}, nfm s = true → nfm t = true → (∀ a, R6 s a = R6 t a) → ∀ q, q ∈ s → q ∈ t := by
  intro s t hs ht h q hq
  have h1 := Zx4 (P3 hs) (a := q.1) (x := q.2) hq
  rw [h] at h1
  by_cases hm : q.1 ∈ t.map Prod.fst
  obtain ⟨⟨b, x⟩, hp, e⟩ := List.mem_map.1 hm
  simp only at e
  subst e
  rw [Zx4 (P3 ht) hp] at h1
  subst h1; exact hp
  rw [Zp8 hm] at h1
  have := Zr2 hs q hq
  omega
 refine Xf1 (P3 hs) (P3 ht) ?_
 refine (List.perm_ext_iff_of_nodup ?_ ?_).2 (fun q => ⟨key hs ht h q, key ht hs (fun a => (h a).symm) q⟩)
 exact List.Pairwise.of_map Prod.fst (fun a b hab e => hab (by rw [e])) (Zz2 (P3 hs))
 exact List.Pairwise.of_map Prod.fst (fun a b hab e => hab (by rw [e])) (Zz2 (P3 ht))
theorem Wc8 (K : Nat) (s : MpT) (p q : A8) (f g : Int) : (T7 K s p f).bind (fun s => T7 K s q g) = (T7 K s q g).bind (fun s => T7 K s p f) := by
 have hnone : ∀ (s : MpT) (p : A8) (f : Int), ¬ (nfm s = true ∧ -4611686018427387904 ≤ f ∧ f ≤ 4611686018427387904) → T7 K s p f = none := by
  intro s p f h
  unfold T7; rw [if_neg h]
 by_cases hs : nfm s = true
 case neg => rw [hnone s p f (fun h => hs h.1), hnone s q g (fun h => hs h.1)]; rfl
 by_cases hf : -4611686018427387904 ≤ f ∧ f ≤ 4611686018427387904
 case neg =>
  rw [hnone s p f (fun h => hf h.2)]
  cases h : T7 K s q g with
  | none => rfl
  | some t => simp [hnone t p f (fun h => hf h.2)]
 by_cases hg : -4611686018427387904 ≤ g ∧ g ≤ 4611686018427387904
 case neg =>
  rw [hnone s q g (fun h => hg h.2)]
  cases h : T7 K s p f with
  | none => rfl
  | some t => simp [hnone t q g (fun h => hg h.2)]
 rw [Yn8 ⟨hs, hf⟩, Yn8 ⟨hs, hg⟩]
 simp only [Option.bind_some]
 rw [Yn8 ⟨Zh7 hs p f, hg⟩, Yn8 ⟨Zh7 hs q g, hf⟩]
 congr 1
 refine Xc4 (Zh7 (Zh7 hs p f) q g) (Zh7 (Zh7 hs q g) p f) (fun a => ?_)
 rw [Zw5 (Zh7 hs p f), Zw5 (Zh7 hs q g), Zw5 hs, Zw5 hs, Zw5 hs, Zw5 hs]
 by_cases e1 : a = p
 by_cases e2 : a = q
 subst e1; subst e2
 simp only [if_true]
 omega
 rw [if_neg e2, if_pos e1, if_pos e1, if_neg (fun e => e2 (e1.trans e))]
 rw [if_neg e1, if_neg e1]
 by_cases e2 : a = q
 rw [if_pos e2, if_pos e2, if_neg (fun e => e1 (e2.trans e))]
 rw [if_neg e2, if_neg e2]
def J8 (K : Nat) : List (A8 × Int) → MpT → Option MpT
 | [], s => some s
 | o :: os, s => (T7 K s o.1 o.2).bind (J8 K os)
theorem Yc9 {K : Nat} : ∀ (xs ys : List (A8 × Int)) (s : MpT), J8 K (xs ++ ys) s = (J8 K xs s).bind (J8 K ys)
 | [], _, _ => rfl
 | x :: xs, ys, s => by
  show (T7 K s x.1 x.2).bind (J8 K (xs ++ ys)) = ((T7 K s x.1 x.2).bind (J8 K xs)).bind (J8 K ys)
  cases T7 K s x.1 x.2 with
  | none => rfl
  | some t => exact Yc9 xs ys t
theorem Xp9 {K : Nat} {xs ys : List (A8 × Int)} (hp : xs.Perm ys) : ∀ s, J8 K xs s = J8 K ys s := by
 induction hp with
 | nil => intro s; rfl
 | cons x _ ih =>
  intro s
  show (T7 K s x.1 x.2).bind _ = (T7 K s x.1 x.2).bind _
  congr 1; funext t; exact ih t
 | swap x y l =>
  intro s
  have h := congrArg (fun o => Option.bind o (J8 K l)) (Wc8 K s y.1 x.1 y.2 x.2)
  simp only [Option.bind_assoc] at h
  exact h
 | trans _ _ ih1 ih2 => intro s; rw [ih1, ih2]
/-- a step that adds terms, the same ones whatever the sum -/
def Zr1 (K : Nat) (A : MpT → Option MpT) : Prop := ∃ o : Option (List (A8 × Int)), ∀ s, A s = o.bind fun ops => J8 K ops s
def Zq5 (K : Nat) {ρ σ X : Type} (h : X → MpT → σ) (A : MpT → Option (Ex ρ σ)) : Prop := ∃ o : Option (List (A8 × Int) × X), ∀ s, A s = o.bind fun p => (J8 K p.1 s).map fun t => .go (h p.2 t)
section
variable {K : Nat} {A B : MpT → Option MpT} {ρ σ X : Type} {h : X → MpT → σ}
theorem Zr1.comm (hA : Zr1 K A) (hB : Zr1 K B) (s : MpT) : (A s).bind B = (B s).bind A := by
 obtain ⟨a, ha⟩ := hA
 obtain ⟨b, hb⟩ := hB
 have e1 : A = fun s => a.bind fun ops => J8 K ops s := funext ha
 have e2 : B = fun s => b.bind fun ops => J8 K ops s := funext hb
 subst e1; subst e2
 cases a with
 | none => cases b with
  | none => rfl
  | some y => simp only [Option.bind_none, Option.bind_some]; cases J8 K y s <;> rfl
 | some x => cases b with
  | none => simp only [Option.bind_none, Option.bind_some]; cases J8 K x s <;> rfl
  | some y =>
   simp only [Option.bind_some]
   show (J8 K x s).bind (J8 K y) = (J8 K y s).bind (J8 K x)
   rw [← Yc9, ← Yc9]
   exact Xp9 List.perm_append_comm s
theorem Zr1.skip : Zr1 K (fun s => some s) := ⟨some [], fun _ => rfl⟩
theorem Zr1.fail : Zr1 K (fun _ => none) := ⟨none, fun _ => rfl⟩
theorem Zr1.add (p : A8) (f : Int) : Zr1 K (fun s => T7 K s p f) := ⟨some [(p, f)], fun s => by simp [J8]⟩
theorem Zr1.const {β : Type} {c : Option β} {B : β → MpT → Option MpT} (hB : ∀ r, Zr1 K (B r)) : Zr1 K (fun s => c.bind fun r => B r s) := by
 cases c with
 | none => exact .fail
 | some r => exact hB r
theorem Zr1.ite {c : Prop} [Decidable c] (hA : Zr1 K A) (hB : Zr1 K B) : Zr1 K (fun s => if c then A s else B s) := by
 by_cases hc : c
 simp only [if_pos hc]; exact hA
 simp only [if_neg hc]; exact hB
theorem Zq5.go (x : X) : Zq5 K (ρ := ρ) h (fun s => some (.go (h x s))) := ⟨some ([], x), fun _ => rfl⟩
theorem Zq5.fail : Zq5 K (ρ := ρ) h (fun _ => none) := ⟨none, fun _ => rfl⟩
theorem Zq5.bind {B : MpT → Option (Ex ρ σ)} (hA : Zr1 K A) (hB : Zq5 K h B) : Zq5 K h (fun s => (A s).bind B) := by
 obtain ⟨a, ha⟩ := hA
 obtain ⟨b, hb⟩ := hB
 have e1 : A = fun s => a.bind fun ops => J8 K ops s := funext ha
 have e2 : B = fun s => b.bind fun p => (J8 K p.1 s).map fun t => .go (h p.2 t) := funext hb
 subst e1; subst e2
 cases a with
 | none => exact .fail
 | some x => cases b with
  | none => exact ⟨none, fun s => by simp only [Option.bind_none, Option.bind_some]; cases J8 K x s <;> rfl⟩
  | some y =>
   refine ⟨some (x ++ y.1, y.2), fun s => ?_⟩
   simp only [Option.bind_some]
   rw [Yc9]
   cases J8 K x s <;> rfl
theorem Zq5.const {β : Type} {c : Option β} {B : β → MpT → Option (Ex ρ σ)} (hB : ∀ r, Zq5 K h (B r)) : Zq5 K h (fun s => c.bind fun r => B r s) := by
 cases c with
 | none => exact .fail
 | some r => exact hB r
theorem Zq5.ite {c : Prop} [Decidable c] {A B : MpT → Option (Ex ρ σ)} (hA : Zq5 K h A) (hB : Zq5 K h B) : Zq5 K h (fun s => if c then A s else B s) := by
 by_cases hc : c
 simp only [if_pos hc]; exact hA
 simp only [if_neg hc]; exact hB
/-- what such a loop gives, handed on -/
theorem Zq5.step {A : MpT → Option (Ex ρ σ)} (hA : Zq5 K h A) (pr : σ → MpT) (hp : ∀ x s, pr (h x s) = s) :
 ∃ F, Zr1 K F ∧ ∀ {τ : Type} (R : ρ → Option τ) (C : MpT → Option τ) (s : MpT), (A s).bind (Ex.elim R fun y => C (pr y)) = (F s).bind C := by
 obtain ⟨a, ha⟩ := hA
 refine ⟨fun s => a.bind fun p => J8 K p.1 s, ?_, fun R C s => ?_⟩
 cases a with
 | none => exact .fail
 | some p => exact ⟨some p.1, fun _ => rfl⟩
 rw [ha]
 cases a with
 | none => rfl
 | some p =>
  simp only [Option.bind_some]
  cases J8 K p.1 s with
  | none => rfl
  | some t =>
   show C (pr (h p.2 t)) = C t
   rw [hp]
theorem Yd9 (L : Nat → MpT → MpT → Option (Ex ρ σ)) (h0 : ∀ zs s, L 0 zs s = none) (hF : ∀ z, ∃ F, Zr1 K F ∧ ∀ k zs s, L (k + 1) (z :: zs) s = (F s).bind (L k zs)) {zp zq : MpT} (hp : zp.Perm zq) :
 ∀ k s, L k zp s = L k zq s := by
 induction hp with
 | nil => intro k s; rfl
 | cons z _ ih =>
  intro k s
  cases k with
  | zero => rw [h0, h0]
  | succ k =>
   obtain ⟨F, _, hc⟩ := hF z
   rw [hc, hc]
   congr 1; funext t; exact ih k t
 | swap x y l =>
  intro k s
  obtain ⟨Fx, ax, hx⟩ := hF x
  obtain ⟨Fy, ay, hy⟩ := hF y
  cases k with
  | zero => rw [h0, h0]
  | succ k =>
   rw [hx, hy]
   cases k with
   | zero =>
    have e1 : L 0 (x :: l) = fun _ => none := funext fun s => h0 _ s
    have e2 : L 0 (y :: l) = fun _ => none := funext fun s => h0 _ s
    rw [e1, e2]
    cases Fx s <;> cases Fy s <;> rfl
   | succ k =>
    have e1 : L (k + 1) (x :: l) = fun s => (Fx s).bind (L k l) := funext fun s => hx k l s
    have e2 : L (k + 1) (y :: l) = fun s => (Fy s).bind (L k l) := funext fun s => hy k l s
    rw [e1, e2]
    have := congrArg (fun o => Option.bind o (L k l)) (ay.comm ax s)
    simp only [Option.bind_assoc] at this
    exact this
 | trans _ _ ih1 ih2 => intro k s; rw [ih1, ih2]
end
-- impl_power_compare
def Yv2 (xs : MpT) : Bool := xs.all fun p => (l8 p.1).all fun x => decide (0 ≤ x ∧ x ≤ 2305843009213693952)
def Zq7 (K : Nat) (a0 : MpT) : Option (List A8) := if Yv2 a0 = true ∧ a0.length < K ∧ a0.length ≤ 1000000000 then some (a0.map Prod.fst) else none
theorem We1 {xs : MpT} (h : Yv2 xs = true) : ∀ a, a ∈ xs.map Prod.fst → ∀ i, 0 ≤ a i ∧ a i ≤ 2305843009213693952 := by
  intro a ha i
  obtain ⟨p, hp, rfl⟩ := List.mem_map.1 ha
  have h1 := List.all_eq_true.1 (List.all_eq_true.1 h p hp)
  have : ∀ x, x ∈ l8 p.1 → 0 ≤ x ∧ x ≤ 2305843009213693952 := fun x hx => by simpa using h1 x hx
  apply this
  unfold l8
  match i with
  | 0 | 1 | 2 | 3 | 4 | 5 | 6 | 7 => simp
theorem Wo7 {xs : MpT} (hs : Srt xs) {ys : List A8} (hp : ys.Perm (xs.map Prod.fst)) (hy : ys.Pairwise fun p q => bef p q = true) : ys = xs.map Prod.fst := by
  have h1 : Srt (ys.map fun a => (a, (0 : Int))) := by
    unfold Srt
    rw [List.pairwise_map]; exact hy
  have h2 : Srt ((xs.map Prod.fst).map fun a => (a, (0 : Int))) := by
    unfold Srt
    rw [List.map_map, List.pairwise_map]; exact hs
  have h3 := congrArg (List.map Prod.fst) (Xf1 h1 h2 (hp.map _))
  simpa [List.map_map, Function.comp_def] using h3
def Yr0 (H : FH) (v : Value) (xs : List A8) (C : OL) : Prop := ∃ b c cs, v = .slice (some ⟨b, 0, none⟩) xs.length c ∧ xs.length ≤ c ∧ c ≤ maxLen ∧ cs.size = c * 8 ∧ C = [(b, .cells cs 188)] ∧
    ∀ i x, xs[i]? = some x → ∀ j, j < 8 → cs[i * 8 + j]? = (Z7 .i64 x)[j]?
theorem Yr0.of {H : FH} {v : Value} {xs : List A8} {C : OL} (h : W3 (Zo7 .i64) 188 H v xs C) (hn : xs ≠ []) : Yr0 H v xs C := by
  rcases h with ⟨_, h, _⟩ | ⟨b, c, cs, h1, h2, h3, h4, h5, h6⟩
  · exact absurd h hn
  · refine ⟨b, c, cs, h1, h2, h3, h4, h5, fun i x hx j hj => ?_⟩
    obtain ⟨ecs, hr, hj'⟩ := h6 i x hx
    have hr : ecs = Z7 .i64 x := hr
    subst hr
    exact hj' j hj
theorem Wo8 {n : Nat} {f : Fr} {w : World} {H : FH} {L : OL} {ops : Array Oper} {J : Fr → World → Prop} {r : List Oper} {T : TypeId} {d : Nat} {pos : String} {af : Array Edge} (hS : St H w L) (hn : Nat.blt d n = true)
    (K : ∀ u w' C', W3 (Zo7 .i64) 188 H u [] C' → Yr0 H u [] C' → St H w' (C' ++ L) → W8 Tryz.prog n ops J r (upd f d u) w') : W8 Tryz.prog n ops J (⟨some d, .buildSlice 120 0 #[], T, pos, af, none⟩ :: r) f w := by
  have hrun := Yc0 (P := Tryz.prog) (w := w) Xl8 Zo4 [] rfl (by simp) (by simp)
  refine T2 (v := .slice (some ⟨w.heap.size, 0, none⟩) 0 0) (w' := w.alloc (.cells #[] 188)) rfl rfl hn (by have h := hrun; simp only [execOp]; exact B4 (by simpa using h))
    (K _ _ [(w.heap.size, .cells #[] 188)] (.inr ⟨w.heap.size, 0, #[], rfl, by simp, by simp [maxLen], by simp, rfl, by simp⟩) ⟨w.heap.size, 0, #[], rfl, by simp, by simp [maxLen], by simp, rfl, by simp⟩ (hS.alloc _))
theorem Yr4 {K : Nat} {a0 : MpT} {r : List A8} (q0 : Zq7 K a0 = some r) {H : FH} {w : World} {L : OL} {s0 : Value} (hs0 : Q7 .i64 H s0 a0) (hS : St H w L) :
    Calls Tryz.prog 177 #[s0] w (T3 (fun v G => (R.sl (Zo7 .i64)).p G v r) H L) := by
  have Z2 := Sub.refl H
  refine X6 Tryz.func177 rfl Tryz.ntmps177 rfl ?_
  unfold Zq7 at q0
  by_cases hg : Yv2 a0 = true ∧ a0.length < K ∧ a0.length ≤ 1000000000
  case neg => rw [if_neg hg] at q0; cases q0
  rw [if_pos hg] at q0
  obtain ⟨hok, hK, hlen⟩ := hg
  cases q0
  refine Z3 ?_
  refine Z1 ?_
  refine Z5 (Value.slice none 0 0) rfl rfl ?_
  refine Z0 ?_
  refine Z3 ?_
  refine Z1 ?_
  refine Wo8 hS rfl ?_
  intro u1 w2 C3 ho4 hnb0 hS
  have hS : St H w2 (C3 ++ L) := hS
  refine Z5 (u1) rfl rfl ?_
  refine Z0 ?_
  refine Z3 ?_
  refine Z3 ?_
  refine Z1 ?_
  refine Z4 (s0) rfl rfl ?_
  refine Yh0 Zg8 rfl hs0 hS rfl ?_
  intro it6 w7 C8 ho9 hS
  have hS : St H w7 (C8 ++ (C3 ++ L)) := hS
  refine Z0 ?_
  refine Y7 ?_
  refine W7 (id := 0) (fun k f w => ∃ (x0_own10 : MpT) (x0_own5 : (List A8)) (H1 : FH) (Cx0_own10 : OL) (Cx0_own5 : OL) (ux0_own5 : Value), ((x0_own5 ++ x0_own10.map Prod.fst).Perm (a0.map Prod.fst) ∧ x0_own10.length < k ∧ (x0_own5 = [] → Yr0 H1 ux0_own5 x0_own5 Cx0_own5)) ∧ Sub H H1 ∧ St H1 w (Cx0_own10 ++ (Cx0_own5 ++ L)) ∧ Zf7 .i64 H1 it6 x0_own10 none Cx0_own10 ∧ W3 (Zo7 .i64) 188 H1 ux0_own5 x0_own5 Cx0_own5 ∧ ev f (.tmp 3) = ux0_own5 ∧ ev f (.tmp 7) = it6) (fun f w => ∃ (y0_own5 : (List A8)) (H1 : FH) (Cy0_own10 : OL) (Cy0_own5 : OL) (uy0_own5 : Value), (y0_own5.Perm (a0.map Prod.fst) ∧ Yr0 H1 uy0_own5 y0_own5 Cy0_own5) ∧ Sub H H1 ∧ St H1 w (Cy0_own10 ++ (Cy0_own5 ++ L)) ∧ Zf7 .i64 H1 it6 ([] : MpT) none Cy0_own10 ∧ W3 (Zo7 .i64) 188 H1 uy0_own5 y0_own5 Cy0_own5 ∧ ev f (.tmp 3) = uy0_own5) rfl ?_ ?_ K ?_ ?_
  · rintro f w ⟨x0_own10, x0_own5, H1, Cx0_own10, Cx0_own5, ux0_own5, ⟨_, hk, _⟩, _⟩
    omega
  · rintro k f1_0 w1_0 ih0 hx0 ⟨x0_own10, x0_own5, H1_0, Cx0_own10, Cx0_own5, ux0_own5, ⟨hpm, hk, hnb⟩, Z2, hS, hox0_own10, hox0_own5, ff1_0_3, ff1_0_7⟩
    refine Z3 ?_
    refine Z1 ?_
    refine Yl9 (by exact ff1_0_7) hox0_own10 hS rfl ?_ ?_
    · intro hr11; subst hr11
      refine W9 (Value.bool false) rfl rfl rfl ?_
      refine Z0 ?_
      refine Z3 ?_
      refine Z8 rfl ?_
      refine W4 rfl ?_
      have hnb' : Yr0 H1_0 ux0_own5 x0_own5 Cx0_own5 := by
        by_cases h : x0_own5 = []
        · exact hnb h
        · exact Yr0.of hox0_own5 h
      exact hx0 _ _ ⟨x0_own5, H1_0, Cx0_own10, Cx0_own5, ux0_own5, ⟨by simpa using hpm, hnb'⟩, Z2, hS, hox0_own10, hox0_own5, ff1_0_3⟩
    · intro z12 zr13 w14 C15 hp16 hi17 hS
      have hS : St H1_0 w14 (C15 ++ (Cx0_own5 ++ L)) := hS
      have hlz := hp16.length_eq
      rw [List.length_cons] at hlz
      have hpm2 : ((x0_own5 ++ [z12.1]) ++ zr13.map Prod.fst).Perm (a0.map Prod.fst) := by
        refine List.Perm.trans ?_ hpm
        rw [List.append_assoc]
        refine List.Perm.append_left _ ?_
        exact (hp16.map Prod.fst).symm
      have hll := hpm.length_eq
      rw [List.length_append, List.length_map, List.length_map] at hll
      refine W9 (Value.bool true) rfl rfl rfl ?_
      refine Z0 ?_
      refine Z3 ?_
      refine Y0 rfl ?_
      refine Y8 ?_
      refine Y7 ?_
      refine Z3 ?_
      refine Z1 ?_
      refine Yg9 (by exact ff1_0_7) hi17 hS rfl ?_
      refine W9 (Value.agg (Z7 .i64 z12.1).toArray) rfl rfl rfl ?_
      refine V0 (z := Value.agg (Z7 .i64 (fun _ => 0)).toArray) (Z7 .i64 (fun _ => 0)).toArray Zo4.zero rfl hS rfl ?_
      intro b18 w19 hS
      have hS : St H1_0 w19 ([(b18, .cells (Z7 .i64 (fun _ => 0)).toArray 188)] ++ (C15 ++ (Cx0_own5 ++ L))) := hS
      refine W0 (v := Value.agg (Z7 .i64 z12.1).toArray) (vs := (Z7 .i64 z12.1).toArray) (cs := (Z7 .i64 (fun _ => 0)).toArray) L0 rfl rfl rfl hS rfl (S3 .i64 z12.1) rfl ?_
      intro w21 hS
      have hS : St H1_0 w21 ([(b18, .cells (Z7 .i64 z12.1).toArray 188)] ++ (C15 ++ (Cx0_own5 ++ L))) := hS
      refine Z0 ?_
      refine Z1 ?_
      refine Z4 (ux0_own5) (by exact ff1_0_3) rfl ?_
      refine W1 L0 rfl (hS.own (b18, .cells (Z7 .i64 z12.1).toArray 188) (List.mem_append_left _ (List.mem_singleton.2 rfl))) rfl rfl ?_
      refine D1 (τ := (Zo7 .i64)) Xl8 Zo4 rfl [Value.agg (Z7 .i64 z12.1).toArray] [z12.1] rfl rfl (L4 rfl) (Zg7 rfl) (by decide) (by decide) hS rfl ?_
      intro u22 H23 w24 sb25 hS hl26
      have Z2 := Z2.trans sb25
      have hox0_own5 := hox0_own5.mono sb25
      have hi17 := hi17.mono sb25
      have hS : St H23 w24 ([(b18, .cells (Z7 .i64 z12.1).toArray 188)] ++ (C15 ++ (Cx0_own5 ++ L))) := hS
      have hg27 : x0_own5.length + ([z12.1]).length ≤ 1099511627776 := by simp; omega
      have hS : St H23 w24 (Cx0_own5 ++ ([(b18, .cells (Z7 .i64 z12.1).toArray 188)] ++ (C15 ++ L))) := hS.perm (Q5 (A1 := [(b18, .cells (Z7 .i64 z12.1).toArray 188)]) (A2 := C15))
      refine P5 (τ := (Zo7 .i64)) Va4 rfl rfl rfl hox0_own5 hS hl26 hg27 rfl ?_
      intro u28 w29 C30 ho31 hS
      have hS : St H23 w29 (C30 ++ ([(b18, .cells (Z7 .i64 z12.1).toArray 188)] ++ (C15 ++ L))) := hS
      have hS : St H23 w29 ([(b18, .cells (Z7 .i64 z12.1).toArray 188)] ++ (C15 ++ (C30 ++ L))) := hS.perm (Q5 (A1 := [(b18, .cells (Z7 .i64 z12.1).toArray 188)]) (A2 := C15)).symm
      refine Z5 (u28) rfl rfl ?_
      refine Z0 ?_
      refine X5 ?_
      have hS := St.dropA (A := [(b18, .cells (Z7 .i64 z12.1).toArray 188)]) hS
      exact ih0 _ _ ⟨zr13, (x0_own5 ++ [z12.1]), H23, C15, C30, u28, ⟨hpm2, by omega, fun h => absurd h (by simp)⟩, Z2, hS, hi17.drop, ho31, rfl, ff1_0_7⟩
  · exact ⟨a0, ([] : List A8), H, C8, C3, u1, ⟨by simp, hK, fun _ => hnb0⟩, Z2, hS, ho9, ho4, rfl, rfl⟩
  · rintro f2_0 w2_0 ⟨y0_own5, H2_0, Cy0_own10, Cy0_own5, uy0_own5, ⟨hpm, hnb⟩, Z2, hS, hoy0_own10, hoy0_own5, ff2_0_3⟩
    obtain ⟨b, c, cs, rfl, h2, h3, h4, rfl, h6⟩ := hnb
    refine Z3 ?_
    refine Z1 ?_
    refine Z4 _ (by exact ff2_0_3) rfl ?_
    have hS := hS.dropA
    have hll := hpm.length_eq
    rw [List.length_map] at hll
    have hnd : y0_own5.Nodup := hpm.nodup_iff.2 (Zz2 hs0.srt)
    refine X0 (vs := #[.slice (some ⟨b, 0, none⟩) y0_own5.length c, .func (.func 221) #[] #[]]) Tryz.call253 (S5 rfl rfl) rfl (Wp8 h2 h3 h4 h6 hS (fun a ha => We1 hok a (hpm.mem_iff.1 ha)) (by omega) hnd) ?_
    rintro e3 w3 ⟨rfl, ys, C4, hp5, hsr, hS, ho5⟩
    refine ⟨_, rfl, ?_⟩
    refine Z0 ?_
    refine Z3 ?_
    refine Z1 ?_
    refine Z4 _ (by exact ff2_0_3) rfl ?_
    refine Z5 _ rfl rfl ?_
    refine Z0 ?_
    refine X3 (vs := [.slice (some ⟨b, 0, none⟩) y0_own5.length c]) Tryz.func177 ⟨rfl, trivial⟩ ?_
    obtain ⟨H32, sb33, hS, hf34⟩ := ho5.freeze hS
    have Z2 := Z2.trans sb33
    have he := Wo7 hs0.srt (hp5.trans hpm) hsr
    rw [he] at hf34
    exact ⟨_, _, rfl, Z2, hS, hf34⟩
def L6 (K : Nat) (a0 : (List Int)) (a1 : MpT) (a2 : MpT) : Nat → Int → MpT → Option (Ex MpT (MpT))
 | 0, _, _ => none
 | k + 1, a3, a5 => (if a3 < (a1.length : Int) then ((Zq2 K a0 ((rd a1 a3).1, (rd a1 a3).2) a2).bind fun d2 => ((Zd5 K a5 d2 1).bind fun c8 => L6 K a0 a1 a2 k (a3 + 1) c8)) else some (.go a5))
def B3 (K : Nat) (a0 : (List Int)) (a1 : MpT) (a2 : MpT) : Option MpT := ((L6 K a0 a1 a2 K 0 ([] : List (A8 × Int))).bind (Ex.elim (fun r => some r) (fun s => (fun (a7 : MpT) => some a7) s)))
theorem Zp4 {K : Nat} {a0 : (List Int)} {a1 : MpT} {a2 : MpT} {r : MpT} (q0 : B3 K a0 a1 a2 = some r) {H : FH} {w : World} {L : OL} {s0 : Value} {s1 : Value} {s2 : Value} (c0 : Z9 (Y6 .i64) H s0 a0) (b2 : Z9 yT H s1 a1) (b3 : Z9 yT H s2 a2) (hS : St H w L) :
 Calls Tryz.prog 171 #[s0, vA ([s1]), vA ([s2])] w (T3 (fun v G => (R.agg (Y9 yT)).p G v r) H L) := by
 have Z2 := Sub.refl H
 refine X6 Tryz.func171 rfl Tryz.ntmps171 rfl ?_
 unfold B3 at q0
 refine Z3 (Z1 ?_)
 refine S4 (v := vA ([s1])) ([s1]).toArray rfl rfl hS rfl ?_
 intro b1 w2 hS
 refine S4 (v := vA ([s2])) ([s2]).toArray rfl rfl hS rfl ?_
 intro b4 w5 hS
 refine V0 (z := vA ([vN])) ([vN]).toArray K7.zero rfl hS rfl ?_
 intro b7 w8 hS
 refine Z0 (Z3 (Z1 ?_))
 refine R4 (vA ([vN])) Yc4 rfl ?_
 refine V0 (z := vA ([vN])) ([vN]).toArray K7.zero rfl hS rfl ?_
 intro d1 l3 hS
 refine W0 (v := vA ([vN])) (vs := ([vN]).toArray) (cs := ([vN]).toArray) U3 rfl rfl rfl hS rfl (U9 rfl) rfl ?_
 intro l4 hS
 refine Z0 (Z3 (Z3 (Z1 (Z5 (vI 0) rfl rfl (Z0 (Y7 ?_))))))
 have d8 : Z9 yT H (.slice none 0 0) ([] : List (A8 × Int)) := Z9.nil
 obtain ⟨d9, a8, e0⟩ := bind_some q0
 refine W7 (id := 0) (fun k f w => ∃ (a3 : Int) (a5 : MpT) (H1 : FH) (a4 : Value), L6 K a0 a1 a2 k a3 a5 = some d9 ∧ Sub H H1 ∧ St H1 w ([(d1, cA ([a4]) 47)] ++ ([(b7, cA ([vN]) 47)] ++ ([(b4, cA ([s2]) 47)] ++ ([(b1, cA ([s1]) 47)] ++ L)))) ∧ 0 ≤ a3 ∧ Z9 yT H1 a4 a5 ∧ Z9 (Y6 .i64) H1 s0 a0 ∧ Z9 yT H1 s1 a1 ∧ Z9 yT H1 s2 a2 ∧ ev f (.tmp 0) = s0 ∧ ev f (.tmp 4) = vP b1 ∧ ev f (.tmp 5) = vP b4 ∧ ev f (.tmp 6) = vP b7 ∧ ev f (.tmp 7) = vP d1 ∧ ev f (.tmp 8) = vI a3) (fun f w => ∃ (a7 : MpT) (H1 : FH) (a6 : Value), d9 = .go a7 ∧ Sub H H1 ∧ St H1 w ([(d1, cA ([a6]) 47)] ++ ([(b7, cA ([vN]) 47)] ++ ([(b4, cA ([s2]) 47)] ++ ([(b1, cA ([s1]) 47)] ++ L)))) ∧ Z9 yT H1 a6 a7 ∧ Z9 yT H1 s1 a1 ∧ Z9 yT H1 s2 a2 ∧ ev f (.tmp 6) = vP b7 ∧ ev f (.tmp 7) = vP d1) rfl ?_ ?_ K ?_ ?_
 rintro f w ⟨a3, a5, H1, a4, a8, _⟩
 rw [L6] at a8; cases a8
 rintro k h5 h6 g8 g9 ⟨a3, a5, f2, a4, a8, Z2, hS, h0, a9, c0, b2, b3, c3, b6, c4, c5, b8, b9⟩
 rw [L6] at a8
 refine Z3 (Z3 (Z1 (Z4 (vI a3) (by exact b9) rfl (Y2 U2 (by exact b6) rfl ?_))))
 refine Y3 (s1) Q3 rfl (hS.get (mR (mR (mR mL)))) rfl rfl ?_
 have h7 := b2.bound
 refine W6 Q0 rfl b2 rfl ?_
 refine U7 (k := .i64) (a := a3) (b := (a1.length : Int)) rfl rfl rfl (Z0 ?_)
 by_cases c9 : a3 < (a1.length : Int)
 rw [if_pos c9] at a8
 refine Y0 (bT c9 rfl) (Y8 (Z3 (Y7 ?_)))
 obtain ⟨h1, h2, h8, l5, _, f3, d3, ⟨_, _, rfl, rfl, rfl⟩, f4⟩ := b2.elem (i := a3) (by omega) (by omega)
 obtain ⟨d2, e5, a8⟩ := bind_some a8
 obtain ⟨c8, e6, a8⟩ := bind_some a8
 refine U0 10 (Q6 [(17, MP.eq (vA ([a4]))), (18, MP.eq (s0)), (19, MP.eq (vP b1)), (20, MP.eq (s1)), (21, MP.eq (vI a3)), (22, MP.eq (Value.pointer (some ⟨h1, h2, none⟩))), (23, MP.eq (vA (Z7 .u8 ((rd a1 a3).1) ++ [vI ((rd a1 a3).2)]))), (24, MP.eq (vA ([s2]))), (25, MP.rep (R.agg (Y9 yT)) (d2)), (26, MP.rep (R.agg (Y9 yT)) (c8))]) [] mixed rfl rfl rfl hS (Z6 rfl ?_ (Z6 rfl ?_ (Z6 rfl ?_ (Z6 rfl ?_ (Z6 rfl ?_ (Z6 rfl ?_ (Z6 rfl ?_ (Z6 rfl ?_ (Z6 rfl ?_ (Z6 rfl ?_ U8)))))))))) ?_
 intro l6 l7 l9 m0 h9 hS f5 i0 hcq
 refine W1 U3 (evT (f5 7 rfl) b8) (hS.get (mR mL)) rfl rfl ?_
 exact qn (.refl _) rfl hS rfl
 intro m1 m2 m3 m4 i1 hS f6 i2 hcq
 refine Z4 (s0) (evT (f6 0 rfl) c3) rfl ?_
 exact qn (.refl _) rfl hS rfl
 intro m5 m6 m7 m8 i3 hS f7 i4 hcq
 refine Y2 U2 (evT (f7 4 rfl) b6) rfl ?_
 exact qn (.refl _) rfl hS rfl
 intro m9 n0 n1 n2 i5 hS i6 f8 hcq
 refine Y3 (s1) Q3 (eM (f8 2 19 rfl rfl)) (hS.get (mR (mR (mR (mR mL))))) rfl rfl ?_
 exact qn (.refl _) rfl hS rfl
 intro n3 n4 n5 n6 i7 hS f9 i8 hcq
 refine Z4 (vI a3) (evT (f9 8 rfl) b9) rfl ?_
 exact qn (.refl _) rfl hS rfl
 intro n7 n8 n9 o0 i9 hS j0 e1 hcq
 refine W2 Q0 rfl (eM (e1 3 20 rfl rfl)) f3 (eM (e1 4 21 rfl rfl)) (by omega) (by omega) rfl ?_
 exact qn (.refl _) rfl hS rfl
 intro o1 o2 o3 o4 g0 hS j1 g1 hcq
 have d3 := g0.1 _ _ d3
 refine V2 (Z7 .u8 ((rd a1 a3).1) ++ [vI ((rd a1 a3).2)]) Zs1 (eM (g1 5 22 rfl rfl)) (hS.froz _ _ d3) rfl f4 rfl ?_
 exact qn (.refl _) rfl hS rfl
 intro o5 o6 o7 o8 j2 hS g2 j3 hcq
 refine W1 U3 (evT (g2 5 rfl) c4) (hS.get (mR (mR (mR mL)))) rfl rfl ?_
 exact qn (.refl _) rfl hS rfl
 intro o9 p0 p1 p2 e2 hS j4 d4 hcq
 have c0 := c0.mono e2
 have b3 := b3.mono e2
 refine X0 Tryz.call251 (I1 (eM (d4 1 18 rfl rfl)) (eM (d4 6 23 rfl rfl)) (eM (d4 7 24 rfl rfl))) rfl (Yt1 e5 c0 b3 hS) ?_
 rintro j5 j6 ⟨g3, j7, rfl, e7, hS, e8⟩
 refine ⟨g3, rfl, ?_⟩
 exact qn e7 rfl hS e8
 intro j8 j9 k0 k1 e9 hS h4 d5 hcq
 have a9 := a9.mono e9
 obtain ⟨k2, g4, ⟨_, rfl, ⟨h3, rfl, d6⟩⟩⟩ := gvR (d5 8 25 rfl rfl)
 refine X0 Tryz.call143 (I1 (eM (d5 0 17 rfl rfl)) g4 rfl) rfl (Zt4 e6 a9 d6 hS) ?_
 rintro k3 k4 ⟨g5, k5, rfl, f0, hS, d0⟩
 refine ⟨g5, rfl, ?_⟩
 have d0 := ((R.agg (Y9 yT))).mono (Xf9 _ _) d0
 exact qn f0 rfl hS d0
 intro k6 g6 e3 c1 hS b0 f1 hcq
 have hS : St e3 g6 ([(d1, cA ([a4]) 47)] ++ ([(b7, cA ([vN]) 47)] ++ ([(b4, cA ([s2]) 47)] ++ ([(b1, cA ([s1]) 47)] ++ L)))) := hS
 have Z2 := Z2.trans c1
 have c0 := c0.mono c1
 have b2 := b2.mono c1
 have b3 := b3.mono c1
 have e4 := evT (b0 7 rfl) b8
 obtain ⟨k7, g7, ⟨_, rfl, ⟨c2, rfl, c6⟩⟩⟩ := gvR (f1 9 26 (by decide) rfl)
 refine W0 (v := vA ([c2])) (vs := ([c2]).toArray) (cs := ([a4]).toArray) U3 (by exact e4) (by exact g7) rfl hS rfl (U9 c6.isOne) rfl ?_
 intro k8 hS
 refine Z0 (X5 (Z1 (Z4 (vI a3) (by exact (evT (b0 8 rfl) b9)) rfl ?_)))
 refine V1 (a3 + 1) rfl rfl (IntWalk.i64_in _ (by omega)) rfl (Z5 (vI (a3 + 1)) rfl rfl (Z0 ?_))
 exact g8 _ _ ⟨(a3 + 1), c8, e3, c2, a8, Z2, hS, (by omega), c6, c0, b2, b3, (evT (b0 0 rfl) c3), (evT (b0 4 rfl) b6), (evT (b0 5 rfl) c4), (evT (b0 6 rfl) c5), e4, rfl⟩
 rw [if_neg c9] at a8
 refine Z8 (bF c9 rfl) ?_
 refine W4 rfl ?_
 have hz := Option.some.inj a8
 subst hz
 exact g9 _ _ ⟨a5, f2, a4, rfl, Z2, hS, a9, b2, b3, c5, b8⟩
 exact ⟨0, ([] : List (A8 × Int)), H, (vN), a8, Z2, hS, (by omega), d8, c0, b2, b3, rfl, rfl, rfl, rfl, rfl, rfl⟩
 rintro k9 l0 ⟨a7, l1, a6, rfl, Z2, hS, b5, b2, b3, c7, d7⟩
 dsimp only [Ex.elim] at e0
 refine Z3 (Z1 ?_)
 refine W1 U3 (by exact d7) (hS.get mL) rfl rfl ?_
 have hS := hS.perm V3
 refine W0 (v := vA ([a6])) (vs := ([a6]).toArray) (cs := ([vN]).toArray) U3 (by exact c7) rfl rfl hS rfl (U9 b5.isOne) rfl ?_
 intro l2 hS
 have hS := hS.perm V3.symm
 refine Z0 ?_
 refine X3 (vs := [vA ([a6])]) Tryz.func171 ⟨⟨_, (by exact c7), U1 U3 (hS.get (mR mL)) rfl⟩, trivial⟩ ?_
 have hz := Option.some.inj e0
 subst hz
 exact ⟨_, _, rfl, Z2, (St.dropA (St.dropA (St.dropA (St.dropA hS)))), ⟨_, rfl, ⟨_, rfl, b5⟩⟩⟩
def G0 (K : Nat) (a0 : MpT) (a1 : MpT) : Nat → Int → Option (Ex Bool (Unit))
 | 0, _ => none
 | k + 1, a3 => (if a3 < (a0.length : Int) then (if a3 < (a1.length : Int) then ((Zu9 K ((rd a0 a3).1, (rd a0 a3).2) ((rd a1 a3).1, (rd a1 a3).2)).bind fun a7 => (if a7 = true then G0 K a0 a1 k (a3 + 1) else some (.ret false))) else none) else some (.go ()))
def Zr0 (K : Nat) (a0 : MpT) (a1 : MpT) : Option Bool := (if (a0.length : Int) = (a1.length : Int) then ((G0 K a0 a1 K 0).bind (Ex.elim (fun r => some r) (fun s => some true))) else some false)
theorem Yx5 {K : Nat} {a0 : MpT} {a1 : MpT} {r : Bool} (q0 : Zr0 K a0 a1 = some r) {H : FH} {w : World} {L : OL} {s0 : Value} {s1 : Value} (a6 : Z9 yT H s0 a0) (a9 : Z9 yT H s1 a1) (hS : St H w L) :
 Calls Tryz.prog 110 #[s0, s1] w (T3 (fun v G => R.bool.p G v r) H L) := by
 have Z2 := Sub.refl H
 refine X6 Tryz.func110 rfl Tryz.ntmps110 rfl ?_
 unfold Zr0 at q0
 refine Z3 (Z1 (Z5 (Value.bool false) rfl rfl (Z0 (Z3 (Z3 (Z1 (Z4 (s0) rfl rfl ?_)))))))
 have i5 := a6.bound
 refine W6 Q0 rfl a6 rfl (Z4 (s1) rfl rfl ?_)
 have i6 := a9.bound
 refine W6 Q0 rfl a9 rfl ?_
 refine G4 (k := .i64) (a := (a0.length : Int)) (b := (a1.length : Int)) rfl rfl rfl (Z0 ?_)
 by_cases b7 : (a0.length : Int) = (a1.length : Int)
 rw [if_pos b7] at q0
 refine Z8 (bN b7 rfl) (Y8 (Z3 (Z3 (Z1 (Z5 (vI 0) rfl rfl (Z0 (Y7 ?_)))))))
 obtain ⟨b9, a4, b2⟩ := bind_some q0
 refine W7 (id := 0) (fun k f w => ∃ (a3 : Int) (H1 : FH), G0 K a0 a1 k a3 = some b9 ∧ Sub H H1 ∧ St H1 w (L) ∧ 0 ≤ a3 ∧ Z9 yT H1 s0 a0 ∧ Z9 yT H1 s1 a1 ∧ ev f (.tmp 0) = s0 ∧ ev f (.tmp 1) = s1 ∧ ev f (.tmp 5) = vI a3) (fun f w => ∃ (H1 : FH), b9 = .go () ∧ Sub H H1 ∧ St H1 w (L)) rfl ?_ ?_ K ?_ ?_
 rintro f w ⟨a3, H1, a4, _⟩
 rw [G0] at a4; cases a4
 rintro k f3 f4 e4 e5 ⟨a3, c9, a4, Z2, hS, e6, a6, a9, a8, b1, a5⟩
 rw [G0] at a4
 refine Z3 (Z3 (Z1 (Z4 (vI a3) (by exact a5) rfl (Z4 (s0) (by exact a8) rfl ?_))))
 have i7 := a6.bound
 refine W6 Q0 rfl a6 rfl ?_
 refine U7 (k := .i64) (a := a3) (b := (a0.length : Int)) rfl rfl rfl (Z0 ?_)
 by_cases b8 : a3 < (a0.length : Int)
 rw [if_pos b8] at a4
 refine Y0 (bT b8 rfl) (Y8 (Z3 (Y7 (Z3 ?_))))
 obtain ⟨e7, e8, f5, i8, _, d0, b5, ⟨_, _, rfl, rfl, rfl⟩, d1⟩ := a6.elem (i := a3) (by omega) (by omega)
 obtain ⟨f7, a4⟩ := gd a4
 obtain ⟨e9, f0, f8, i9, _, d2, b6, ⟨_, _, rfl, rfl, rfl⟩, d3⟩ := a9.elem (i := a3) (by omega) (by omega)
 obtain ⟨a7, c5, a4⟩ := bind_some a4
 refine U0 10 (Q6 [(17, MP.eq (s0)), (18, MP.eq (vI a3)), (19, MP.eq (Value.pointer (some ⟨e7, e8, none⟩))), (20, MP.eq (vA (Z7 .u8 ((rd a0 a3).1) ++ [vI ((rd a0 a3).2)]))), (21, MP.eq (s1)), (22, MP.eq (vI a3)), (23, MP.eq (Value.pointer (some ⟨e9, f0, none⟩))), (24, MP.eq (vA (Z7 .u8 ((rd a1 a3).1) ++ [vI ((rd a1 a3).2)]))), (25, MP.eq (Value.bool a7)), (26, MP.eq (Value.bool (!a7)))]) [] mixed rfl rfl rfl hS (Z6 rfl ?_ (Z6 rfl ?_ (Z6 rfl ?_ (Z6 rfl ?_ (Z6 rfl ?_ (Z6 rfl ?_ (Z6 rfl ?_ (Z6 rfl ?_ (Z6 rfl ?_ (Z6 rfl ?_ U8)))))))))) ?_
 intro f6 w7 H8 X9 f9 hS d4 g0 hcq
 refine Z4 (s0) (evT (d4 0 rfl) a8) rfl ?_
 exact qn (.refl _) rfl hS rfl
 intro j0 j1 j2 j3 g1 hS d5 g2 hcq
 refine Z4 (vI a3) (evT (d5 5 rfl) a5) rfl ?_
 exact qn (.refl _) rfl hS rfl
 intro j4 j5 j6 j7 g3 hS g4 c0 hcq
 refine W2 Q0 rfl (eM (c0 0 17 rfl rfl)) d0 (eM (c0 1 18 rfl rfl)) (by omega) (by omega) rfl ?_
 exact qn (.refl _) rfl hS rfl
 intro j8 j9 k0 k1 d6 hS g5 d7 hcq
 have b5 := d6.1 _ _ b5
 refine V2 (Z7 .u8 ((rd a0 a3).1) ++ [vI ((rd a0 a3).2)]) Zs1 (eM (d7 2 19 rfl rfl)) (hS.froz _ _ b5) rfl d1 rfl ?_
 exact qn (.refl _) rfl hS rfl
 intro k2 k3 k4 k5 g6 hS d8 g7 hcq
 refine Z4 (s1) (evT (d8 1 rfl) b1) rfl ?_
 exact qn (.refl _) rfl hS rfl
 intro k6 k7 k8 k9 g8 hS d9 g9 hcq
 refine Z4 (vI a3) (evT (d9 5 rfl) a5) rfl ?_
 exact qn (.refl _) rfl hS rfl
 intro l0 l1 l2 l3 h0 hS h1 c1 hcq
 refine W2 Q0 rfl (eM (c1 4 21 rfl rfl)) d2 (eM (c1 5 22 rfl rfl)) (by omega) (by omega) rfl ?_
 exact qn (.refl _) rfl hS rfl
 intro l4 l5 l6 l7 e0 hS h2 e1 hcq
 have b6 := e0.1 _ _ b6
 refine V2 (Z7 .u8 ((rd a1 a3).1) ++ [vI ((rd a1 a3).2)]) Zs1 (eM (e1 6 23 rfl rfl)) (hS.froz _ _ b6) rfl d3 rfl ?_
 exact qn (.refl _) rfl hS rfl
 intro l9 m0 m1 m2 h3 hS h4 c2 hcq
 refine X0 Tryz.call201 (S5 (eM (c2 3 20 rfl rfl)) (eM (c2 7 24 rfl rfl))) rfl (Yy8 c5  hS) ?_
 rintro h5 h6 ⟨_, h7, rfl, c6, hS, rfl⟩
 refine ⟨_, rfl, ?_⟩
 exact qn c6 rfl hS rfl
 intro h8 h9 i0 i1 f1 hS f2 c7 hcq
 refine G5 (b := a7) (eM (c7 8 25 rfl rfl)) rfl ?_
 exact qn (.refl _) rfl hS rfl
 intro e2 e3 c3 b3 hS b4 c8 hcq
 have hS : St c3 e3 (L) := hS
 have Z2 := Z2.trans b3
 have a6 := a6.mono b3
 have a9 := a9.mono b3
 have c4 : ev e2 (.tmp 26) = Value.bool (!a7) := c8 9 26 (by decide) rfl
 refine Z0 ?_
 by_cases b0 : a7 = true
 rw [if_pos b0] at a4
 refine Z8 (Eq.trans (by exact c4) (congrArg (fun b => Value.bool (!b)) b0)) (Y8 (X5 (Z1 (Z4 (vI a3) (by exact (evT (b4 5 rfl) a5)) rfl ?_))))
 refine V1 (a3 + 1) rfl rfl (IntWalk.i64_in _ (by omega)) rfl (Z5 (vI (a3 + 1)) rfl rfl (Z0 ?_))
 exact e4 _ _ ⟨(a3 + 1), c3, a4, Z2, hS, (by omega), a6, a9, (evT (b4 0 rfl) a8), (evT (b4 1 rfl) b1), rfl⟩
 rw [if_neg b0] at a4
 refine Y0 (Eq.trans (by exact c4) (congrArg (fun b => Value.bool (!b)) (W5 b0))) (Z3 (Z1 (Z5 (Value.bool false) rfl rfl (Z0 ?_))))
 refine X3 (vs := [Value.bool false]) Tryz.func110 ⟨rfl, trivial⟩ ?_
 have hz := Option.some.inj a4
 subst hz
 dsimp only [Ex.elim] at b2
 have hz := Option.some.inj b2
 subst hz
 exact ⟨_, _, rfl, Z2, hS, rfl⟩
 rw [if_neg b8] at a4
 refine Z8 (bF b8 rfl) ?_
 refine W4 rfl ?_
 have hz := Option.some.inj a4
 subst hz
 exact e5 _ _ ⟨c9, rfl, Z2, hS⟩
 exact ⟨0, H, a4, Z2, hS, (by omega), a6, a9, rfl, rfl, rfl⟩
 rintro i2 i3 ⟨i4, rfl, Z2, hS⟩
 dsimp only [Ex.elim] at b2
 refine Z3 (Z1 (Z5 (Value.bool true) rfl rfl (Z0 ?_)))
 refine X3 (vs := [Value.bool true]) Tryz.func110 ⟨rfl, trivial⟩ ?_
 have hz := Option.some.inj b2
 subst hz
 exact ⟨_, _, rfl, Z2, hS, rfl⟩
 rw [if_neg b7] at q0
 refine Y0 (bO b7 rfl) (Z3 (Z1 (Z5 (Value.bool false) rfl rfl (Z0 ?_))))
 refine X3 (vs := [Value.bool false]) Tryz.func110 ⟨rfl, trivial⟩ ?_
 have hz := Option.some.inj q0
 subst hz
 exact ⟨_, _, rfl, Z2, hS, rfl⟩
def D5 (K : Nat) (a0 : (List Int)) (r5 : MpT) : Nat → Int → (List Int) → Option (Ex (List Int) ((List Int)))
 | 0, _, _ => none
 | k + 1, a3, a4 => (if a3 < (a0.length : Int) then ((I4 K a3).bind fun b6 => (if a4.length + ([(R6 r5 b6)]).length ≤ 1099511627776 then D5 K a0 r5 k (a3 + 1) (a4 ++ [(R6 r5 b6)]) else none)) else some (.go a4))
def Zn6 (K : Nat) (a0 : (List Int)) (a1 : MpT) : Option (List Int) := ((Zd3 K a1).bind fun r5 => ((D5 K a0 r5 K 0 ([] : List Int)).bind (Ex.elim (fun r => some r) (fun s => (fun (b0 : (List Int)) => some b0) s))))
theorem Yr6 {K : Nat} {a0 : (List Int)} {a1 : MpT} {r : (List Int)} (q0 : Zn6 K a0 a1 = some r) {H : FH} {w : World} {L : OL} {s0 : Value} {s1 : Value} (c4 : Z9 (Y6 .i64) H s0 a0) (b2 : Z9 yT H s1 a1) (hS : St H w L) :
 Calls Tryz.prog 280 #[s0, vA ([s1])] w (T3 (fun v G => (R.sl (Y6 .i64)).p G v r) H L) := by
 have Z2 := Sub.refl H
 refine X6 Tryz.func280 rfl Tryz.ntmps280 rfl ?_
 unfold Zn6 at q0
 refine Z3 (Z1 ?_)
 refine S4 (v := vA ([s1])) ([s1]).toArray rfl rfl hS rfl ?_
 intro b1 w2 hS
 refine Z5 (vN) rfl rfl (Z0 (Z3 (Z1 ?_)))
 refine W1 U3 rfl (hS.get mL) rfl rfl ?_
 obtain ⟨r5, d9, q0⟩ := bind_some q0
 refine X0 Tryz.call90 (S1 rfl) rfl (Zh0 d9 b2 hS) ?_
 rintro e5 w6 ⟨m5, H5, C5, rfl, c6, hS, b4⟩
 refine ⟨_, rfl, ?_⟩
 have Z2 := Z2.trans c6
 have c4 := c4.mono c6
 have b2 := b2.mono c6
 refine Zn2 (τ := (Y6 .i64)) Q1 ze2 rfl hS rfl ?_
 intro u8 w9 e0 d0 hS
 refine Z5 (m5) rfl rfl (Z5 (u8) rfl rfl (Z0 (Z3 (Z3 (Z1 (Z4 (s0) rfl rfl ?_))))))
 have e6 := c4.bound
 refine W6 Q1 rfl c4 rfl (Z4 (vI 0) rfl rfl (Z0 (Y7 ?_)))
 obtain ⟨c7, a8, c8⟩ := bind_some q0
 refine W7 (id := 0) (fun k f w => ∃ (a3 : Int) (a4 : (List Int)) (H1 : FH) (a9 : OL) (a6 : Value), D5 K a0 r5 k a3 a4 = some c7 ∧ Sub H H1 ∧ St H1 w (a9 ++ (C5 ++ ([(b1, cA ([s1]) 47)] ++ L))) ∧ 0 ≤ a3 ∧ W3 (Y6 .i64) 2 H1 a6 a4 a9 ∧ Z9 yT H1 s1 a1 ∧ P2 .i64 m5 r5 C5 ∧ ev f (.tmp 5) = m5 ∧ ev f (.tmp 6) = a6 ∧ ev f (.tmp 12) = vI (a0.length : Int) ∧ ev f (.tmp 13) = vI a3) (fun f w => ∃ (b0 : (List Int)) (H1 : FH) (b3 : OL) (a7 : Value), c7 = .go b0 ∧ Sub H H1 ∧ St H1 w (b3 ++ (C5 ++ ([(b1, cA ([s1]) 47)] ++ L))) ∧ W3 (Y6 .i64) 2 H1 a7 b0 b3 ∧ Z9 yT H1 s1 a1 ∧ P2 .i64 m5 r5 C5 ∧ ev f (.tmp 6) = a7) rfl ?_ ?_ K ?_ ?_
 rintro f w ⟨a3, a4, H1, a9, a6, a8, _⟩
 rw [D5] at a8; cases a8
 rintro k e7 e8 e1 e2 ⟨a3, a4, d1, a9, a6, a8, Z2, hS, d8, a5, b2, b4, b8, b9, b7, b5⟩
 rw [D5] at a8
 refine Z3 (Z1 ?_)
 refine U7 (k := .i64) (a := a3) (b := (a0.length : Int)) (by exact b5) (by exact b7) rfl (Z0 (Z3 ?_))
 by_cases c0 : a3 < (a0.length : Int)
 rw [if_pos c0] at a8
 refine Y0 (bT c0 rfl) (Y8 (Z3 (Y7 (Z3 (Z1 (Z4 (vI a3) (by exact b5) rfl (Z5 (vI a3) rfl rfl (Z0 (Z1 (Z4 (a6) (by exact b9) rfl (Z4 (m5) (by exact b8) rfl (Z4 (vI a3) rfl rfl ?_))))))))))))
 obtain ⟨b6, d2, a8⟩ := bind_some a8
 refine X0 Tryz.call151 (S1 rfl) rfl (Zc3 d2  hS) ?_
 rintro f2 f3 ⟨f4, f5, rfl, c1, hS, ⟨_, rfl, rfl⟩⟩
 refine ⟨_, rfl, ?_⟩
 have Z2 := Z2.trans c1
 have b2 := b2.mono c1
 have b4 := b4.mono c1
 have a5 := a5.mono c1
 have hS := hS.perm V3
 refine Yu5 (a := b6) Zg8 rfl rfl b4 hS rfl ?_
 have hS := hS.perm V3.symm
 refine D1 (τ := (Y6 .i64)) Q1 ze2 rfl [vI (R6 r5 b6)] [(R6 r5 b6)] rfl rfl (L4 rfl) (Zg7 rfl) (by decide) (by decide) hS rfl ?_
 intro f6 e3 f7 c2 hS d3
 have Z2 := Z2.trans c2
 have b2 := b2.mono c2
 have b4 := b4.mono c2
 have a5 := a5.mono c2
 obtain ⟨d4, a8⟩ := gd a8
 refine P5 (τ := (Y6 .i64)) Xb7 rfl rfl rfl a5 hS d3 d4 rfl ?_
 intro c9 f8 e4 d5 hS
 refine Z5 (c9) rfl rfl (Z0 (X5 (Z1 ?_)))
 refine V1 (a3 + 1) (by exact b5) rfl (IntWalk.i64_in _ (by omega)) rfl (Z4 (vI (a3 + 1)) rfl rfl (Z0 ?_))
 exact e1 _ _ ⟨(a3 + 1), (a4 ++ [(R6 r5 b6)]), e3, e4, c9, a8, Z2, hS, (by omega), d5, b2, b4, b8, rfl, b7, rfl⟩
 rw [if_neg c0] at a8
 refine Z8 (bF c0 rfl) ?_
 refine W4 rfl ?_
 have hz := Option.some.inj a8
 subst hz
 exact e2 _ _ ⟨a4, d1, a9, a6, rfl, Z2, hS, a5, b2, b4, b9⟩
 exact ⟨0, ([] : List Int), H5, e0, u8, a8, Z2, hS, (by omega), d0, b2, b4, rfl, rfl, rfl, rfl⟩
 rintro e9 f0 ⟨b0, f1, b3, a7, rfl, Z2, hS, c3, b2, b4, c5⟩
 dsimp only [Ex.elim] at c8
 refine Z3 (Z1 (Z4 (a7) (by exact c5) rfl (Z5 (a7) rfl rfl (Z0 ?_))))
 refine X3 (vs := [a7]) Tryz.func280 ⟨rfl, trivial⟩ ?_
 obtain ⟨f9, d6, hS, d7⟩ := c3.freeze hS
 have Z2 := Z2.trans d6
 have hz := Option.some.inj c8
 subst hz
 exact ⟨_, _, rfl, Z2, (St.dropA (St.dropA hS)), d7⟩
def Zb6 (K : Nat) (a0 : MpT) : Nat → Int → MpT → Option (Ex MpT (MpT))
 | 0, _, _ => none
 | k + 1, a1, a3 => (if a1 < (a0.length : Int) then ((Zv1 K ((rd a0 a1).1, (rd a0 a1).2)).bind fun b3 => (if a1 < (a3.length : Int) then Zb6 K a0 k (a1 + 1) (a3.set (a1).toNat (b3.1, b3.2)) else none)) else some (.go a3))
def Zs4 (K : Nat) (a0 : MpT) : Option MpT := (if (a0.length : Int) ≤ 1099511627776 then ((Zb6 K a0 K 0 (List.replicate ((a0.length : Int)).toNat (((fun _ => 0), 0) : (A8 × Int)))).bind (Ex.elim (fun r => some r) (fun s => (fun (a8 : MpT) => some a8) s))) else none)
theorem Yw6 {K : Nat} {a0 : MpT} {r : MpT} (q0 : Zs4 K a0 = some r) {H : FH} {w : World} {L : OL} {s0 : Value} (b1 : Z9 yT H s0 a0) (hS : St H w L) :
 Calls Tryz.prog 108 #[s0] w (T3 (fun v G => (R.sl yT).p (G.new H) v r) H L) := by
 have Z2 := Sub.refl H
 refine X6 Tryz.func108 rfl Tryz.ntmps108 rfl ?_
 unfold Zs4 at q0
 refine Z3 (Z1 (Z5 (vN) rfl rfl (Z0 (Z3 (Z1 (Z4 (s0) rfl rfl ?_))))))
 have e6 := b1.bound
 refine W6 Wa6 rfl b1 rfl ?_
 obtain ⟨e7, q0⟩ := gd q0
 refine Xe2 (τ := yT) (((fun _ => 0), 0) : (A8 × Int)) Ys7 rfl rfl rfl (fun _ => ⟨_, _, rfl, rfl, rfl⟩) (by omega) (by omega) hS rfl ?_
 intro u3 w4 C5 d1 hS
 refine Z5 (u3) rfl rfl (Z0 (Z3 (Z3 (Z1 (Z5 (vI 0) rfl rfl (Z0 (Y7 ?_)))))))
 obtain ⟨c1, a6, c2⟩ := bind_some q0
 refine W7 (id := 0) (fun k f w => ∃ (a1 : Int) (a3 : MpT) (H1 : FH) (a9 : OL) (a4 : Value), Zb6 K a0 k a1 a3 = some c1 ∧ Sub H H1 ∧ St H1 w (a9 ++ L) ∧ 0 ≤ a1 ∧ W3 yT 76 H1 a4 a3 a9 ∧ Z9 yT H1 s0 a0 ∧ ev f (.tmp 0) = s0 ∧ ev f (.tmp 3) = a4 ∧ ev f (.tmp 4) = vI a1) (fun f w => ∃ (a8 : MpT) (H1 : FH) (b2 : OL) (a5 : Value), c1 = .go a8 ∧ Sub H H1 ∧ St H1 w (b2 ++ L) ∧ W3 yT 76 H1 a5 a8 b2 ∧ ev f (.tmp 3) = a5) rfl ?_ ?_ K ?_ ?_
 rintro f w ⟨a1, a3, H1, a9, a4, a6, _⟩
 rw [Zb6] at a6; cases a6
 rintro k d8 d9 d2 d3 ⟨a1, a3, c4, a9, a4, a6, Z2, hS, d4, a7, b1, b4, b5, b0⟩
 rw [Zb6] at a6
 refine Z3 (Z3 (Z1 (Z4 (vI a1) (by exact b0) rfl (Z4 (s0) (by exact b4) rfl ?_))))
 have e8 := b1.bound
 refine W6 Wa6 rfl b1 rfl ?_
 refine U7 (k := .i64) (a := a1) (b := (a0.length : Int)) rfl rfl rfl (Z0 ?_)
 by_cases b9 : a1 < (a0.length : Int)
 rw [if_pos b9] at a6
 refine Y0 (bT b9 rfl) (Y8 (Z3 (Y7 (Z1 (Z4 (a4) (by exact b5) rfl (Z4 (vI a1) (by exact b0) rfl (Z4 (s0) (by exact b4) rfl (Z4 (vI a1) (by exact b0) rfl ?_))))))))
 obtain ⟨e9, f0, e0, f1, _, c5, c6, ⟨_, _, rfl, rfl, rfl⟩, c7⟩ := b1.elem (i := a1) (by omega) (by omega)
 refine W2 Wa6 rfl rfl c5 rfl (by omega) (by omega) rfl ?_
 refine V2 (Z7 .u8 ((rd a0 a1).1) ++ [vI ((rd a0 a1).2)]) Va8 rfl (hS.froz _ _ c6) rfl c7 rfl ?_
 obtain ⟨b3, c8, a6⟩ := bind_some a6
 refine X0 Tryz.call200 (S1 rfl) rfl (Xb8 c8  hS) ?_
 rintro f2 f3 ⟨f4, d5, rfl, b8, hS, ⟨_, rfl, ⟨_, _, rfl, rfl, rfl⟩⟩⟩
 refine ⟨_, rfl, ?_⟩
 have Z2 := Z2.trans b8
 have b1 := b1.mono b8
 have a7 := a7.mono b8
 obtain ⟨e1, a6⟩ := gd a6
 obtain ⟨f5, f6, c3⟩ := a7.some (i := a1) (by omega) (by omega)
 refine Zt8 Q0 (Eq.trans rfl c3) rfl (by omega) (by omega) rfl ?_
 refine Zu1 (τ := yT) (v := a4) (u := vA (Z7 .u8 b3.1 ++ [vI b3.2])) (b3.1, b3.2) (i := a1) rfl Zs1 c3 a7 hS rfl rfl (by omega) (by omega) ⟨_, _, rfl, rfl, rfl⟩ ?_
 intro f7 d6 c9 hS
 refine Z0 (X5 (Z1 (Z4 (vI a1) (by exact b0) rfl ?_)))
 refine V1 (a1 + 1) rfl rfl (IntWalk.i64_in _ (by omega)) rfl (Z5 (vI (a1 + 1)) rfl rfl (Z0 ?_))
 exact d2 _ _ ⟨(a1 + 1), (a3.set (a1).toNat (b3.1, b3.2)), d5, d6, a4, a6, Z2, hS, (by omega), c9, b1, b4, b5, rfl⟩
 rw [if_neg b9] at a6
 refine Z8 (bF b9 rfl) ?_
 refine W4 rfl ?_
 have hz := Option.some.inj a6
 subst hz
 exact d3 _ _ ⟨a3, c4, a9, a4, rfl, Z2, hS, a7, b5⟩
 exact ⟨0, (List.replicate ((a0.length : Int)).toNat (((fun _ => 0), 0) : (A8 × Int))), H, C5, u3, a6, Z2, hS, (by omega), d1, b1, rfl, rfl, rfl⟩
 rintro e2 e3 ⟨a8, e4, b2, a5, rfl, Z2, hS, b7, c0⟩
 dsimp only [Ex.elim] at c2
 refine Z3 (Z1 (Z4 (a5) (by exact c0) rfl (Z5 (a5) rfl rfl (Z0 ?_))))
 refine X3 (vs := [a5]) Tryz.func108 ⟨rfl, trivial⟩ ?_
 obtain ⟨d7, d0, hS, b6⟩ := W3.freezeF (τ := yT) (H0 := H) b7 hS Z2
 have e5 := Z9.old b6
 have b6 : RdF yT H d7 a5 a8 := b6
 have Z2 := Z2.trans d0
 have hz := Option.some.inj c2
 subst hz
 exact ⟨_, _, rfl, Z2, hS, b6⟩
def E0 (K : Nat) (a0 : (List Int)) (a1 : (List MpT)) : Nat → Int → Option (Ex ((List MpT) × Int) (Unit))
 | 0, _ => none
 | k + 1, a3 => (if a3 < (a1.length : Int) then ((Zn0 K a0 (rd a1 a3)).bind fun r4 => (if r4 = true then E0 K a0 a1 k (a3 + 1) else some (.ret (([] : List MpT), 3)))) else some (.go ()))
def Zd7 (K : Nat) (a0 : (List Int)) (a1 : (List MpT)) : Option ((List MpT) × Int) := ((E0 K a0 a1 K 0).bind (Ex.elim (fun r => some r) (fun s => some (a1, 0))))
theorem Zy5 {K : Nat} {a0 : (List Int)} {a1 : (List MpT)} {r : ((List MpT) × Int)} (q0 : Zd7 K a0 a1 = some r) {H : FH} {w : World} {L : OL} {s0 : Value} {s1 : Value} (a8 : Z9 (Y6 .i64) H s0 a0) (a5 : Z9 (Y9 yT) H s1 a1) (hS : St H w L) :
 Calls Tryz.prog 173 #[s0, s1] w (T3 (fun v G => (R.t2 (R.sl (Y9 yT)) (R.int .i64)).p G v r) H L) := by
 have Z2 := Sub.refl H
 refine X6 Tryz.func173 rfl Tryz.ntmps173 rfl ?_
 unfold Zd7 at q0
 refine Z3 (Z1 (Z5 (vN) rfl rfl (Z5 (vI 0) rfl rfl (Z0 (Z3 (Z3 (Z1 (Z5 (vI 0) rfl rfl (Z0 (Y7 ?_))))))))))
 obtain ⟨b5, a4, b0⟩ := bind_some q0
 refine W7 (id := 0) (fun k f w => ∃ (a3 : Int) (H1 : FH), E0 K a0 a1 k a3 = some b5 ∧ Sub H H1 ∧ St H1 w (L) ∧ 0 ≤ a3 ∧ Z9 (Y6 .i64) H1 s0 a0 ∧ Z9 (Y9 yT) H1 s1 a1 ∧ ev f (.tmp 0) = s0 ∧ ev f (.tmp 1) = s1 ∧ ev f (.tmp 6) = vI a3) (fun f w => ∃ (H1 : FH), b5 = .go () ∧ Sub H H1 ∧ St H1 w (L) ∧ Z9 (Y9 yT) H1 s1 a1 ∧ ev f (.tmp 1) = s1) rfl ?_ ?_ K ?_ ?_
 rintro f w ⟨a3, H1, a4, _⟩
 rw [E0] at a4; cases a4
 rintro k c7 c8 c0 c1 ⟨a3, b8, a4, Z2, hS, c2, a8, a5, a9, a6, a7⟩
 rw [E0] at a4
 refine Z3 (Z3 (Z1 (Z4 (vI a3) (by exact a7) rfl (Z4 (s1) (by exact a6) rfl ?_))))
 have d2 := a5.bound
 refine W6 N1 rfl a5 rfl ?_
 refine U7 (k := .i64) (a := a3) (b := (a1.length : Int)) rfl rfl rfl (Z0 ?_)
 by_cases b1 : a3 < (a1.length : Int)
 rw [if_pos b1] at a4
 refine Y0 (bT b1 rfl) (Y8 (Z3 (Y7 (Z3 (Z1 (Z4 (s0) (by exact a9) rfl (Z4 (s1) (by exact a6) rfl (Z4 (vI a3) (by exact a7) rfl ?_))))))))
 obtain ⟨b3, o3, d3, E3, _, c3, c4, ⟨b9, rfl, b7⟩, c5⟩ := a5.elem (i := a3) (by omega) (by omega)
 refine W2 N1 rfl rfl c3 rfl (by omega) (by omega) rfl ?_
 refine V2 ([b9]) U3 rfl (hS.froz _ _ c4) rfl c5 rfl ?_
 obtain ⟨r4, c6, a4⟩ := bind_some a4
 refine X0 Tryz.call113 (S5 rfl rfl) rfl (Yj9 c6 a8 b7 hS) ?_
 rintro e4 w5 ⟨_, H4, rfl, b6, hS, rfl⟩
 refine ⟨_, rfl, ?_⟩
 have Z2 := Z2.trans b6
 have a8 := a8.mono b6
 have a5 := a5.mono b6
 refine G5 (b := r4) rfl rfl (Z0 ?_)
 by_cases b2 : r4 = true
 rw [if_pos b2] at a4
 refine Z8 (Eq.trans rfl (congrArg (fun b => Value.bool (!b)) b2)) (Y8 (X5 (Z1 (Z4 (vI a3) (by exact a7) rfl ?_))))
 refine V1 (a3 + 1) rfl rfl (IntWalk.i64_in _ (by omega)) rfl (Z5 (vI (a3 + 1)) rfl rfl (Z0 ?_))
 exact c0 _ _ ⟨(a3 + 1), H4, a4, Z2, hS, (by omega), a8, a5, a9, a6, rfl⟩
 rw [if_neg b2] at a4
 refine Y0 (Eq.trans rfl (congrArg (fun b => Value.bool (!b)) (W5 b2))) (Z3 (Z1 (Z5 (vN) rfl rfl (Z5 (vI 3) rfl rfl (Z0 ?_)))))
 refine X3 (vs := [vN, vI 3]) Tryz.func173 ⟨rfl, rfl, trivial⟩ ?_
 have hz := Option.some.inj a4
 subst hz
 dsimp only [Ex.elim] at b0
 have hz := Option.some.inj b0
 subst hz
 exact ⟨_, _, rfl, Z2, hS, ⟨_, _, rfl, Z9.nil, rfl⟩⟩
 rw [if_neg b1] at a4
 refine Z8 (bF b1 rfl) ?_
 refine W4 rfl ?_
 have hz := Option.some.inj a4
 subst hz
 exact c1 _ _ ⟨b8, rfl, Z2, hS, a5, a6⟩
 exact ⟨0, H, a4, Z2, hS, (by omega), a8, a5, rfl, rfl, rfl⟩
 rintro c9 d0 ⟨d1, rfl, Z2, hS, a5, b4⟩
 dsimp only [Ex.elim] at b0
 refine Z3 (Z1 (Z4 (s1) (by exact b4) rfl (Z5 (s1) rfl rfl (Z5 (vI 0) rfl rfl (Z0 ?_)))))
 refine X3 (vs := [s1, vI 0]) Tryz.func173 ⟨rfl, rfl, trivial⟩ ?_
 have hz := Option.some.inj b0
 subst hz
 exact ⟨_, _, rfl, Z2, hS, ⟨_, _, rfl, a5, rfl⟩⟩
def Zl9 (K : Nat) (a0 : (List Int)) : Option Bool := (if (a0.length : Int) ≤ 8 then ((K8 K a0 (fun x => Zm6 K x)).bind fun r3 => some (!r3)) else some false)
theorem Yq3 {K : Nat} {a0 : (List Int)} {r : Bool} (q0 : Zl9 K a0 = some r) {H : FH} {w : World} {L : OL} {s0 : Value} (a3 : Z9 (Y6 .i64) H s0 a0) (hS : St H w L) :
 Calls Tryz.prog 124 #[s0] w (T3 (fun v G => R.bool.p G v r) H L) := by
 have Z2 := Sub.refl H
 refine X6 Tryz.func124 rfl Tryz.ntmps124 rfl ?_
 unfold Zl9 at q0
 refine Z3 (Z1 (Z5 (Value.bool false) rfl rfl (Z0 (Z3 (Z1 (Z4 (s0) rfl rfl ?_))))))
 have a8 := a3.bound
 refine W6 Q1 rfl a3 rfl ?_
 refine Yw4 (k := .i64) (a := (a0.length : Int)) (b := 8) rfl rfl rfl (Z4 (Value.bool (decide ((a0.length : Int) ≤ 8))) rfl rfl ?_)
 by_cases a1 : (a0.length : Int) ≤ 8
 rw [if_pos a1] at q0
 refine Y4 rfl rfl (bT a1 rfl) (Z4 (s0) rfl rfl ?_)
 obtain ⟨r3, a4, q0⟩ := bind_some q0
 refine Y4 rfl rfl (bT a1 rfl) ?_
 refine X0 Tryz.call218 (S5 rfl rfl) rfl (Zw1 a4 a3 ⟨219, #[], rfl, Tryz.call219, fun H2 w2 L2 v x b a9 a5 hv a6 => by obtain rfl := hv; exact Yj6 a6   a5⟩ hS) ?_
 rintro e3 w5 ⟨_, H3, rfl, a7, hS, rfl⟩
 refine ⟨_, rfl, ?_⟩
 have Z2 := Z2.trans a7
 refine Y4 rfl rfl (bT a1 rfl) (G5 (b := r3) rfl rfl ?_)
 refine V9 (t := true) (Value.bool (!r3)) (bT a1 rfl) ((if_pos rfl).trans rfl) rfl (Z5 (Value.bool (!r3)) rfl rfl (Z0 ?_))
 refine X3 (vs := [Value.bool (!r3)]) Tryz.func124 ⟨rfl, trivial⟩ ?_
 have hz := Option.some.inj q0
 subst hz
 exact ⟨_, _, rfl, Z2, hS, rfl⟩
 rw [if_neg a1] at q0
 refine Y1 rfl rfl (bF a1 rfl) rfl rfl rfl (Y1 rfl rfl (bF a1 rfl) rfl rfl rfl (Y1 rfl rfl (bF a1 rfl) rfl rfl rfl ?_))
 refine V9 (t := false) (Value.bool false) (bF a1 rfl) ((if_neg Bool.false_ne_true).trans rfl) rfl (Z5 (Value.bool false) rfl rfl (Z0 ?_))
 refine X3 (vs := [Value.bool false]) Tryz.func124 ⟨rfl, trivial⟩ ?_
 have hz := Option.some.inj q0
 subst hz
 exact ⟨_, _, rfl, Z2, hS, rfl⟩
end Go.Proofs.YtfodlhkoafhplaaGreat
