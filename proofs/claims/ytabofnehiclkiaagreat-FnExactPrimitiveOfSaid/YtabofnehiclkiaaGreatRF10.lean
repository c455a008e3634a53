/- Walk, rules and plain laws. -/
import Derived.Test.YtabofnehiclkiaaGreatRF7
import Derived.Test.YtabofnehiclkiaaGreatRF8
import Derived.Test.YtabofnehiclkiaaGreatRF6
namespace Go.Proofs.YtabofnehiclkiaaGreat
open Go Go.Proofs.Tryz IntKind IntWalk List
open Option (bind_some)
set_option linter.all false
set_option maxRecDepth 100000
set_option maxHeartbeats 8000000
variable {K : Nat} {H : FH} {w : World} {L : OL} {s0 s1 s2 s3 s4 s5 s6 : Value}
instance : DecidableEq A8 := fun a b => decidable_of_iff _ (Zf3 (a := a) (b := b))
theorem Xz9 (K : Nat) (x : Int) : Zp3 K x = some (x % 10007) := by
 unfold Zp3
 have h1 : -10007 < x.tmod 10007 ∧ x.tmod 10007 < 10007 := by
  constructor
  have := Int.tmod_lt_of_pos (-x) (show (0 : Int) < 10007 by decide)
  rw [Int.neg_tmod] at this; omega
  exact Int.tmod_lt_of_pos x (by decide)
 rw [i64_in _ (by omega)]
 congr 1
 rw [Int.tmod_eq_emod_of_nonneg (by omega)]
 rw [Int.add_emod_right]
 rcases Int.emod_two_eq x with _ | _ <;> (rw [Int.tmod_eq_emod]; split <;> omega)
def Zw7 (s : MpT) (p : A8) (f : Int) : MpT := if (N5 s p + f) % 10007 = 0 then Zz2 s p else Zc9 s p ((N5 s p + f) % 10007)
theorem Yk0 {s : MpT} (h : nfm s = true) (a : A8) : 0 ≤ N5 s a ∧ N5 s a ≤ 10006 := by
 by_cases hm : a ∈ s.map Prod.fst
 obtain ⟨⟨b, x⟩, hp, rfl⟩ := mem_map.1 hm
 rw [Yl1 (Zu6 (I5 h)) hp]
 have := Yd1 h _ hp
 simp only at this ⊢; omega
 rw [Zk4 hm]; omega
theorem Ym7 {K : Nat} {s : MpT} {p : A8} {f : Int} (h : nfm s = true ∧ -4611686018427387904 ≤ f ∧ f ≤ 4611686018427387904) : T7 K s p f = some (Zw7 s p f) := by
 unfold T7 Zw7
 rw [if_pos h]
 have hb := Yk0 h.1 p
 rw [i64_in _ (by omega), Xz9]
 simp only [bind_some]
 split <;> rfl
theorem Yg5 {s : MpT} {a : A8} {q : A8 × Int} : q ∈ Zz2 s a ↔ q ∈ s ∧ q.1 ≠ a := by
 unfold Zz2
 rw [mem_filter]
 constructor
 rintro ⟨h1, h2⟩
 refine ⟨h1, fun e => ?_⟩
 rw [e, Zf3.2 U] at h2; simp at h2
 rintro ⟨h1, h2⟩
 refine ⟨h1, ?_⟩
 cases e : eq8 a q.1 with
 | false => rfl
 | true => exact absurd (Zf3.1 e).symm h2
theorem Yc8 {s : MpT} {a : A8} {x : Int} {q : A8 × Int} : q ∈ Zc9 s a x ↔ q = (a, x) ∨ q ∈ s ∧ q.1 ≠ a := by
 unfold Zc9
 rw [(Zv2 _ _).mem_iff, mem_cons, Yg5]
theorem Zj6 {s : MpT} (h : nfm s = true) (p : A8) (f : Int) : nfm (Zw7 s p f) = true := by
 unfold Zw7
 split
 exact Yi7 (Xd7 (I5 h) p) (fun q hq => Yd1 h q (Yg5.1 hq).1)
 refine Yi7 (Yo1 (I5 h) p _) (fun q hq => ?_)
 rcases Yc8.1 hq with rfl | hq
 simp only; omega
 exact Yd1 h q hq.1
theorem Ya1 {s : MpT} (hs : Srt s) {a : A8} {x : Int} (h : (a, x) ∈ s) : N5 s a = x := Yl1 (Zu6 hs) h
theorem Zz6 {s : MpT} (h : nfm s = true) (p : A8) (f : Int) (a : A8) : N5 (Zw7 s p f) a = if a = p then (N5 s p + f) % 10007 else N5 s a := by
 have hs := I5 h
 have h' := I5 (Zj6 h p f)
 unfold Zw7 at h' ⊢
 split
 rename_i h0
 rw [if_pos h0] at h'
 by_cases e : a = p
 subst e
 rw [if_pos U, h0, Zk4]
 intro hm
 obtain ⟨q, hq, e⟩ := mem_map.1 hm
 exact (Yg5.1 hq).2 e
 rw [if_neg e]
 by_cases hm : a ∈ s.map Prod.fst
 obtain ⟨⟨b, x⟩, hq, rfl⟩ := mem_map.1 hm
 rw [Ya1 hs hq, Ya1 h' (Yg5.2 ⟨hq, e⟩)]
 rw [Zk4 hm, Zk4]
 intro hm'
 obtain ⟨q, hq, rfl⟩ := mem_map.1 hm'
 exact hm (mem_map.2 ⟨q, (Yg5.1 hq).1, U⟩)
 rename_i h0
 rw [if_neg h0] at h'
 by_cases e : a = p
 subst e
 rw [if_pos U, Ya1 h' (Yc8.2 (.inl U))]
 rw [if_neg e]
 by_cases hm : a ∈ s.map Prod.fst
 obtain ⟨⟨b, x⟩, hq, rfl⟩ := mem_map.1 hm
 rw [Ya1 hs hq, Ya1 h' (Yc8.2 (.inr ⟨hq, e⟩))]
 rw [Zk4 hm, Zk4]
 intro hm'
 obtain ⟨q, hq, rfl⟩ := mem_map.1 hm'
 rcases Yc8.1 hq with rfl | hq
 exact e U
 exact hm (mem_map.2 ⟨q, hq.1, U⟩)
theorem Wq0 {s t : MpT} (hs : nfm s = true) (ht : nfm t = true) (h : ∀ a, N5 s a = N5 t a) : s = t := by
 have key : ∀ {s t : MpT}, nfm s = true → nfm t = true → (∀ a, N5 s a = N5 t a) → ∀ q, q ∈ s → q ∈ t := by
  intro s t hs ht h q hq
  have h1 := Ya1 (I5 hs) (a := q.1) (x := q.2) hq
  rw [h] at h1
  by_cases hm : q.1 ∈ t.map Prod.fst
  obtain ⟨⟨b, x⟩, hp, e⟩ := mem_map.1 hm
  simp only at e
  subst e
  rw [Ya1 (I5 ht) hp] at h1
  subst h1; exact hp
  rw [Zk4 hm] at h1
  have := Yd1 hs q hq
  omega
 refine Xi3 (I5 hs) (I5 ht) ((perm_ext_iff_of_nodup ?_ ?_).2 (fun q => ⟨key hs ht h q, key ht hs (fun a => (h a).symm) q⟩))
 exact List.Pairwise.of_map Prod.fst (fun a b hab e => hab (by rw [e])) (Zu6 (I5 hs))
 exact List.Pairwise.of_map Prod.fst (fun a b hab e => hab (by rw [e])) (Zu6 (I5 ht))
theorem Wo1 (K : Nat) (s : MpT) (p q : A8) (f g : Int) : (T7 K s p f).bind (fun s => T7 K s q g) = (T7 K s q g).bind (fun s => T7 K s p f) := by
 have hnone : ∀ (s : MpT) (p : A8) (f : Int), ¬ (nfm s = true ∧ -4611686018427387904 ≤ f ∧ f ≤ 4611686018427387904) → T7 K s p f = none := by
  intro s p f h
  unfold T7; rw [if_neg h]
 by_cases hs : nfm s = true
 case neg => rw [hnone s p f (fun h => hs h.1), hnone s q g (fun h => hs h.1)]; rfl
 by_cases hf : -4611686018427387904 ≤ f ∧ f ≤ 4611686018427387904
 case neg =>
  rw [hnone s p f (fun h => hf h.2)]
  cases h : T7 K s q g with
  | none => rfl
  | some t => simp [hnone t p f (fun h => hf h.2)]
 by_cases hg : -4611686018427387904 ≤ g ∧ g ≤ 4611686018427387904
 case neg =>
  rw [hnone s q g (fun h => hg h.2)]
  cases h : T7 K s p f with
  | none => rfl
  | some t => simp [hnone t q g (fun h => hg h.2)]
 rw [Ym7 ⟨hs, hf⟩, Ym7 ⟨hs, hg⟩]
 simp only [bind_some]
 rw [Ym7 ⟨Zj6 hs p f, hg⟩, Ym7 ⟨Zj6 hs q g, hf⟩]
 congr 1
 refine Wq0 (Zj6 (Zj6 hs p f) q g) (Zj6 (Zj6 hs q g) p f) (fun a => ?_)
 rw [Zz6 (Zj6 hs p f), Zz6 (Zj6 hs q g), Zz6 hs, Zz6 hs, Zz6 hs, Zz6 hs]
 by_cases e1 : a = p
 by_cases e2 : a = q
 subst e1; subst e2
 simp only [if_true]
 omega
 rw [if_neg e2, if_pos e1, if_pos e1, if_neg (fun e => e2 (e1.trans e))]
 rw [if_neg e1, if_neg e1]
 by_cases e2 : a = q
 rw [if_pos e2, if_pos e2, if_neg (fun e => e1 (e2.trans e))]
 rw [if_neg e2, if_neg e2]
def K8 (K : Nat) : List (A8 × Int) → MpT → Option MpT
 | [], s => some s
 | o :: os, s => (T7 K s o.1 o.2).bind (K8 K os)
theorem Yh5 {K : Nat} : ∀ (xs ys : List (A8 × Int)) (s : MpT), K8 K (xs ++ ys) s = (K8 K xs s).bind (K8 K ys)
 | [], _, _ => rfl
 | x :: xs, ys, s => by
  show (T7 K s x.1 x.2).bind (K8 K (xs ++ ys)) = ((T7 K s x.1 x.2).bind (K8 K xs)).bind (K8 K ys)
  cases T7 K s x.1 x.2 with
  | none => rfl
  | some t => exact Yh5 xs ys t
theorem Xu0 {K : Nat} {xs ys : List (A8 × Int)} (hp : xs.Perm ys) : ∀ s, K8 K xs s = K8 K ys s := by
 induction hp with
 | nil => intro s; rfl
 | cons x _ ih =>
  intro s
  show (T7 K s x.1 x.2).bind _ = (T7 K s x.1 x.2).bind _
  congr 1; funext t; exact ih t
 | swap x y l =>
  intro s
  have h := congrArg (fun o => Option.bind o (K8 K l)) (Wo1 K s y.1 x.1 y.2 x.2)
  simp only [Option.bind_assoc] at h
  exact h
 | trans _ _ ih1 ih2 => intro s; rw [ih1, ih2]
def Zu5 (K : Nat) (A : MpT → Option MpT) : Prop := ∃ o : Option (List (A8 × Int)), ∀ s, A s = o.bind fun ops => K8 K ops s
def Zr5 (K : Nat) {ρ σ X : Type} (h : X → MpT → σ) (A : MpT → Option (Ex ρ σ)) : Prop := ∃ o : Option (List (A8 × Int) × X), ∀ s, A s = o.bind fun p => (K8 K p.1 s).map fun t => .go (h p.2 t)
section
variable {K : Nat} {A B : MpT → Option MpT} {ρ σ X : Type} {h : X → MpT → σ}
theorem Zu5.comm (hA : Zu5 K A) (hB : Zu5 K B) (s : MpT) : (A s).bind B = (B s).bind A := by
 obtain ⟨a, ha⟩ := hA
 obtain ⟨b, hb⟩ := hB
 have e1 : A = fun s => a.bind fun ops => K8 K ops s := funext ha
 have e2 : B = fun s => b.bind fun ops => K8 K ops s := funext hb
 subst e1; subst e2
 cases a with
 | none => cases b with
  | none => rfl
  | some y => simp only [Option.bind_none, bind_some]; cases K8 K y s <;> rfl
 | some x => cases b with
  | none => simp only [Option.bind_none, bind_some]; cases K8 K x s <;> rfl
  | some y =>
   simp only [bind_some]
   show (K8 K x s).bind (K8 K y) = (K8 K y s).bind (K8 K x)
   rw [← Yh5, ← Yh5]
   exact Xu0 perm_append_comm s
theorem Zu5.skip : Zu5 K (fun s => some s) := ⟨some [], fun _ => rfl⟩
theorem Zu5.fail : Zu5 K (fun _ => none) := ⟨none, fun _ => rfl⟩
theorem Zu5.add (p : A8) (f : Int) : Zu5 K (fun s => T7 K s p f) := ⟨some [(p, f)], fun s => by simp [K8]⟩
theorem Zu5.const {β : Type} {c : Option β} {B : β → MpT → Option MpT} (hB : ∀ r, Zu5 K (B r)) : Zu5 K (fun s => c.bind fun r => B r s) := by
 cases c with
 | none => exact .fail
 | some r => exact hB r
theorem Zu5.ite {c : Prop} [Decidable c] (hA : Zu5 K A) (hB : Zu5 K B) : Zu5 K (fun s => if c then A s else B s) := by
 by_cases hc : c
 simp only [if_pos hc]; exact hA
 simp only [if_neg hc]; exact hB
theorem Zr5.go (x : X) : Zr5 K (ρ := ρ) h (fun s => some (.go (h x s))) := ⟨some ([], x), fun _ => rfl⟩
theorem Zr5.fail : Zr5 K (ρ := ρ) h (fun _ => none) := ⟨none, fun _ => rfl⟩
theorem Zr5.bind {B : MpT → Option (Ex ρ σ)} (hA : Zu5 K A) (hB : Zr5 K h B) : Zr5 K h (fun s => (A s).bind B) := by
 obtain ⟨a, ha⟩ := hA
 obtain ⟨b, hb⟩ := hB
 have e1 : A = fun s => a.bind fun ops => K8 K ops s := funext ha
 have e2 : B = fun s => b.bind fun p => (K8 K p.1 s).map fun t => .go (h p.2 t) := funext hb
 subst e1; subst e2
 cases a with
 | none => exact .fail
 | some x => cases b with
  | none => exact ⟨none, fun s => by simp only [Option.bind_none, bind_some]; cases K8 K x s <;> rfl⟩
  | some y =>
   refine ⟨some (x ++ y.1, y.2), fun s => ?_⟩
   simp only [bind_some]
   rw [Yh5]
   cases K8 K x s <;> rfl
theorem Zr5.const {β : Type} {c : Option β} {B : β → MpT → Option (Ex ρ σ)} (hB : ∀ r, Zr5 K h (B r)) : Zr5 K h (fun s => c.bind fun r => B r s) := by
 cases c with
 | none => exact .fail
 | some r => exact hB r
theorem Zr5.ite {c : Prop} [Decidable c] {A B : MpT → Option (Ex ρ σ)} (hA : Zr5 K h A) (hB : Zr5 K h B) : Zr5 K h (fun s => if c then A s else B s) := by
 by_cases hc : c
 simp only [if_pos hc]; exact hA
 simp only [if_neg hc]; exact hB
theorem Zr5.step {A : MpT → Option (Ex ρ σ)} (hA : Zr5 K h A) (pr : σ → MpT) (hp : ∀ x s, pr (h x s) = s) :
 ∃ F, Zu5 K F ∧ ∀ {τ : Type} (R : ρ → Option τ) (C : MpT → Option τ) (s : MpT), (A s).bind (Ex.elim R fun y => C (pr y)) = (F s).bind C := by
 obtain ⟨a, ha⟩ := hA
 refine ⟨fun s => a.bind fun p => K8 K p.1 s, ?_, fun R C s => ?_⟩
 cases a with
 | none => exact .fail
 | some p => exact ⟨some p.1, fun _ => rfl⟩
 rw [ha]
 cases a with
 | none => rfl
 | some p =>
  simp only [bind_some]
  cases K8 K p.1 s with
  | none => rfl
  | some t =>
   show C (pr (h p.2 t)) = C t
   rw [hp]
theorem Yo8 (L : Nat → MpT → MpT → Option (Ex ρ σ)) (h0 : ∀ zs s, L 0 zs s = none) (hF : ∀ z, ∃ F, Zu5 K F ∧ ∀ k zs s, L (k + 1) (z :: zs) s = (F s).bind (L k zs)) {zp zq : MpT} (hp : zp.Perm zq) :
 ∀ k s, L k zp s = L k zq s := by
 induction hp with
 | nil => intro k s; rfl
 | cons z _ ih =>
  intro k s
  cases k with
  | zero => rw [h0, h0]
  | succ k =>
   obtain ⟨F, _, hc⟩ := hF z
   rw [hc, hc]
   congr 1; funext t; exact ih k t
 | swap x y l =>
  intro k s
  obtain ⟨Fx, ax, hx⟩ := hF x
  obtain ⟨Fy, ay, hy⟩ := hF y
  cases k with
  | zero => rw [h0, h0]
  | succ k =>
   rw [hx, hy]
   cases k with
   | zero =>
    have e1 : L 0 (x :: l) = fun _ => none := funext fun s => h0 _ s
    have e2 : L 0 (y :: l) = fun _ => none := funext fun s => h0 _ s
    rw [e1, e2]
    cases Fx s <;> cases Fy s <;> rfl
   | succ k =>
    have e1 : L (k + 1) (x :: l) = fun s => (Fx s).bind (L k l) := funext fun s => hx k l s
    have e2 : L (k + 1) (y :: l) = fun s => (Fy s).bind (L k l) := funext fun s => hy k l s
    rw [e1, e2]
    have := congrArg (fun o => Option.bind o (L k l)) (ay.comm ax s)
    simp only [Option.bind_assoc] at this
    exact this
 | trans _ _ ih1 ih2 => intro k s; rw [ih1, ih2]
end
def Yy5 (xs : MpT) : Bool := xs.all fun p => (l8 p.1).all fun x => decide (0 ≤ x ∧ x ≤ 2305843009213693952)
def Zs6 (K : Nat) (a0 : MpT) : Option (List A8) := if Yy5 a0 = true ∧ a0.length < K ∧ a0.length ≤ 1000000000 then some (a0.map Prod.fst) else none
theorem Wp1 {xs : MpT} (h : Yy5 xs = true) : ∀ a, a ∈ xs.map Prod.fst → ∀ i, 0 ≤ a i ∧ a i ≤ 2305843009213693952 := by
 intro a ha i
 obtain ⟨p, hp, rfl⟩ := mem_map.1 ha
 have h1 := all_eq_true.1 (all_eq_true.1 h p hp)
 have : ∀ x, x ∈ l8 p.1 → 0 ≤ x ∧ x ≤ 2305843009213693952 := fun x hx => by simpa using h1 x hx
 apply this
 unfold l8
 match i with
 | 0 | 1 | 2 | 3 | 4 | 5 | 6 | 7 => simp
theorem Vc3 {xs : MpT} (hs : Srt xs) {ys : List A8} (hp : ys.Perm (xs.map Prod.fst)) (hy : ys.Pairwise fun p q => bef p q = true) : ys = xs.map Prod.fst := by
 have h1 : Srt (ys.map fun a => (a, (0 : Int))) := by
  unfold Srt
  rw [pairwise_map]; exact hy
 have h2 : Srt ((xs.map Prod.fst).map fun a => (a, (0 : Int))) := by
  unfold Srt
  rw [map_map, pairwise_map]; exact hs
 have h3 := congrArg (map Prod.fst) (Xi3 h1 h2 (hp.map _))
 simpa [map_map, Function.comp_def] using h3
def Yv5 (H : FH) (v : Value) (xs : List A8) (C : OL) : Prop := ∃ b c cs, v = .slice (some ⟨b, 0, none⟩) xs.length c ∧ xs.length ≤ c ∧ c ≤ maxLen ∧ cs.size = c * 8 ∧ C = [(b, .cells cs 222)] ∧
 ∀ i x, xs[i]? = some x → ∀ j, j < 8 → cs[i * 8 + j]? = (Z7 .i64 x)[j]?
theorem Yv5.of {H : FH} {v : Value} {xs : List A8} {C : OL} (h : W0 (Q5 .i64) 222 H v xs C) (hn : xs ≠ []) : Yv5 H v xs C := by
 rcases h with ⟨_, h, _⟩ | ⟨b, c, cs, h1, h2, h3, h4, h5, h6⟩
 exact absurd h hn
 refine ⟨b, c, cs, h1, h2, h3, h4, h5, fun i x hx j hj => ?_⟩
 obtain ⟨ecs, hr, hj'⟩ := h6 i x hx
 have hr : ecs = Z7 .i64 x := hr
 subst hr
 exact hj' j hj
theorem Vc4 {n : Nat} {f : Fr} {w : World} {H : FH} {L : OL} {ops : Array Oper} {J : Fr → World → Prop} {r : List Oper} {T : TypeId} {d : Nat} {pos : String} {af : Array Edge} (hS : St H w L) (hn : Nat.blt d n = true)
 (K : ∀ u w' C', W0 (Q5 .i64) 222 H u [] C' → Yv5 H u [] C' → St H w' (C' ++ L) → X7 prog n ops J r (upd f d u) w') : X7 prog n ops J (⟨some d, .buildSlice 98 0 #[], T, pos, af, none⟩ :: r) f w := by
 have hrun := Zu4 (P := prog) (w := w) Zv1 Zm8 [] U (by simp) (by simp)
 refine U2 (v := .slice (some ⟨w.heap.size, 0, none⟩) 0 0) (w' := w.alloc (.cells #[] 222)) U U hn (by have h := hrun; simp only [execOp]; exact F4 (by simpa using h))
  (K _ _ [(w.heap.size, .cells #[] 222)] (.inr ⟨w.heap.size, 0, #[], U, by simp, by simp [maxLen], by simp, U, by simp⟩) ⟨w.heap.size, 0, #[], U, by simp, by simp [maxLen], by simp, U, by simp⟩ (hS.alloc _))
theorem Yv2 {a0 : MpT} {r : List A8} (q0 : Zs6 K a0 = some r) (hs0 : N0 .i64 H s0 a0) (hS : St H w L) :
 Calls prog 195 #[s0] w (T4 (fun v G => (R.sl (Q5 .i64)).p G v r) H L) := by
 have Z4 := Sub.refl H
 refine X0 func195 U ntmps195 U ?_
 unfold Zs6 at q0
 by_cases hg : Yy5 a0 = true ∧ a0.length < K ∧ a0.length ≤ 1000000000
 case neg => rw [if_neg hg] at q0; cases q0
 rw [if_pos hg] at q0
 obtain ⟨hok, hK, hlen⟩ := hg
 cases q0
 refine Z1 (Z0 (Z5 (Value.slice none 0 0) U U (Z2 (Z1 (Z0 (Vc4 hS U ?_))))))
 intro u1 w2 C3 ho4 hnb0 hS
 have hS : St H w2 (C3 ++ L) := hS
 refine Z5 u1 U U (Z2 (Z1 (Z1 (Z0 (Z3 s0 U U (Yk3 Zs5 U hs0 hS U ?_))))))
 intro it6 w7 C8 ho9 hS
 have hS : St H w7 (C8 ++ _) := hS
 refine Z2 (Y8 (W3 (id := 0) (fun k f w => ∃ x0_own10 x0_own5 H1 Cx0_own10 Cx0_own5 ux0_own5, ((x0_own5 ++ x0_own10.map Prod.fst).Perm (a0.map Prod.fst) ∧ x0_own10.length < k ∧ (x0_own5 = [] → Yv5 H1 ux0_own5 x0_own5 Cx0_own5)) ∧ Sub H H1 ∧ St H1 w (Cx0_own10 ++ (Cx0_own5 ++ L)) ∧ Zi2 .i64 H1 it6 x0_own10 none Cx0_own10 ∧ W0 (Q5 .i64) 222 H1 ux0_own5 x0_own5 Cx0_own5 ∧ tv f 3 = ux0_own5 ∧ tv f 7 = it6) (fun f w => ∃ y0_own5 H1 Cy0_own10 Cy0_own5 uy0_own5, (y0_own5.Perm (a0.map Prod.fst) ∧ Yv5 H1 uy0_own5 y0_own5 Cy0_own5) ∧ Sub H H1 ∧ St H1 w (Cy0_own10 ++ (Cy0_own5 ++ L)) ∧ Zi2 .i64 H1 it6 ([] : MpT) none Cy0_own10 ∧ W0 (Q5 .i64) 222 H1 uy0_own5 y0_own5 Cy0_own5 ∧ tv f 3 = uy0_own5) U ?_ ?_ K ?_ ?_))
 rintro f w ⟨x0_own10, x0_own5, H1, Cx0_own10, Cx0_own5, ux0_own5, ⟨_, hk, _⟩, _⟩
 omega
 rintro k _ _ ih0 hx0 ⟨x0_own10, x0_own5, H1_0, Cx0_own10, Cx0_own5, ux0_own5, ⟨hpm, hk, hnb⟩, Z4, hS, hox0_own10, hox0_own5, ff1_0_3, ff1_0_7⟩
 refine Z1 (Z0 (Ys4 (by exact ff1_0_7) hox0_own10 hS U ?_ ?_))
 intro hr11; subst hr11
 refine V1 (vB false) U U U (Z2 (Z1 (Z6 U (W2 U ?_))))
 have hnb' : Yv5 H1_0 ux0_own5 x0_own5 Cx0_own5 := by
  by_cases h : x0_own5 = []
  exact hnb h
  exact Yv5.of hox0_own5 h
 exact hx0 _ _ ⟨x0_own5, H1_0, Cx0_own10, Cx0_own5, ux0_own5, ⟨by simpa using hpm, hnb'⟩, Z4, hS, hox0_own10, hox0_own5, ff1_0_3⟩
 intro z12 zr13 w14 C15 hp16 hi17 hS
 have hS : St H1_0 w14 (C15 ++ _) := hS
 have hlz := hp16.length_eq
 rw [length_cons] at hlz
 have hpm2 : ((x0_own5 ++ [z12.1]) ++ zr13.map Prod.fst).Perm (a0.map Prod.fst) := by
  refine List.Perm.trans ?_ hpm
  rw [append_assoc]
  refine List.Perm.append_left _ ((hp16.map Prod.fst).symm)
 have hll := hpm.length_eq
 rw [length_append, length_map, length_map] at hll
 refine V1 (vB true) U U U (Z2 (Z1 (Z8 U (Y6 (Y8 (Z1 (Z0 (Yk7 (by exact ff1_0_7) hi17 hS U (V1 (Value.agg (Z7 .i64 z12.1).toArray) U U U (U5 (z := Value.agg (Z7 .i64 (fun _ => 0)).toArray) (Z7 .i64 (fun _ => 0)).toArray Zm8.zero U hS U ?_))))))))))
 intro b18 w19 hS
 have hS : St H1_0 w19 ([(b18, .cells (Z7 .i64 (fun _ => 0)).toArray 222)] ++ _) := hS
 refine W1 (v := Value.agg (Z7 .i64 z12.1).toArray) (vs := (Z7 .i64 z12.1).toArray) (cs := (Z7 .i64 (fun _ => 0)).toArray) P3 U U U hS U (R7 .i64 z12.1) U ?_
 intro w21 hS
 have hS : St H1_0 w21 ([(b18, .cells (Z7 .i64 z12.1).toArray 222)] ++ _) := hS
 refine Z2 (Z0 (Z3 ux0_own5 (by exact ff1_0_3) U (X5 P3 U (hS.own (b18, .cells (Z7 .i64 z12.1).toArray 222) (mem_append_left _ (mem_singleton.2 U))) U U (Zc4 (τ := (Q5 .i64)) Zv1 Zm8 U [Value.agg (Z7 .i64 z12.1).toArray] [z12.1] U U (D3 U) (Zl6 U) (by decide) (by decide) hS U ?_))))
 intro _ H23 w24 sb25 hS hl26
 have Z4 := Z4.trans sb25
 have hox0_own5 := hox0_own5.mono sb25
 have hi17 := hi17.mono sb25
 have hS : St H23 w24 ([(b18, .cells (Z7 .i64 z12.1).toArray 222)] ++ _) := hS
 have hg27 : x0_own5.length + ([z12.1]).length ≤ 1099511627776 := by simp; omega
 have hS : St H23 w24 (Cx0_own5 ++ ([(b18, .cells (Z7 .i64 z12.1).toArray 222)] ++ (C15 ++ L))) := hS.perm (Zc0 (A1 := [(b18, .cells (Z7 .i64 z12.1).toArray 222)]) (A2 := C15))
 refine N2 (τ := (Q5 .i64)) Vh6 U U U hox0_own5 hS hl26 hg27 U ?_
 intro u28 w29 C30 ho31 hS
 have hS : St H23 w29 (C30 ++ ([(b18, .cells (Z7 .i64 z12.1).toArray 222)] ++ _)) := hS
 have hS : St H23 w29 ([(b18, .cells (Z7 .i64 z12.1).toArray 222)] ++ (C15 ++ (C30 ++ L))) := hS.perm (Zc0 (A1 := [(b18, .cells (Z7 .i64 z12.1).toArray 222)]) (A2 := C15)).symm
 refine Z5 u28 U U (Z2 (X1 ?_))
 have hS := St.dA (A := [(b18, .cells (Z7 .i64 z12.1).toArray 222)]) hS
 exact ih0 _ _ ⟨zr13, (x0_own5 ++ [z12.1]), H23, C15, C30, u28, ⟨hpm2, by omega, fun h => absurd h (by simp)⟩, Z4, hS, hi17.drop, ho31, U, ff1_0_7⟩
 exact ⟨a0, ([] : List A8), H, C8, C3, u1, ⟨by simp, hK, fun _ => hnb0⟩, Z4, hS, ho9, ho4, U, U⟩
 rintro _ _ ⟨y0_own5, _, Cy0_own10, Cy0_own5, uy0_own5, ⟨hpm, hnb⟩, Z4, hS, _, _, ff2_0_3⟩
 obtain ⟨b, c, cs, rfl, h2, h3, h4, rfl, h6⟩ := hnb
 refine Z1 (Z0 (Z3 _ (by exact ff2_0_3) U ?_))
 have hS := hS.dA
 have hll := hpm.length_eq
 rw [length_map] at hll
 have hnd : y0_own5.Nodup := hpm.nodup_iff.2 (Zu6 hs0.srt)
 refine U9 (vs := #[.slice (some ⟨b, 0, none⟩) y0_own5.length c, .func (.func 213) #[] #[]]) call257 (W8 U U) U (Va4 h2 h3 h4 h6 hS (fun a ha => Wp1 hok a (hpm.mem_iff.1 ha)) (by omega) hnd) ?_
 rintro _ _ ⟨rfl, ys, _, hp5, hsr, hS, ho5⟩
 refine ⟨_, U, ?_⟩
 refine Z2 (Z1 (Z0 (Z3 _ (by exact ff2_0_3) U (Z5 _ U U (Z2 (Y9 (vs := [.slice (some ⟨b, 0, none⟩) y0_own5.length c]) func195 Ut ?_))))))
 obtain ⟨_, sb33, hS, hf34⟩ := ho5.freeze hS
 have Z4 := Z4.trans sb33
 have he := Vc3 hs0.srt (hp5.trans hpm) hsr
 rw [he] at hf34
 exact ⟨_, _, U, Z4, hS, hf34⟩
def Zd3 (K : Nat) (a1 : (List (List Int))) : Nat → Int → (List Int) → Option (Ex (List Int) ((List Int)))
 | 0, _, _ => none
 | k + 1, a3, a5 => (if a3 < (a1.length : Int) then ((D4 K (rd a1 a3)).bind fun r4 => (if 0 ≤ r4 then (if r4 < (a5.length : Int) then (if (rd a5 r4) = 0 then Zd3 K a1 k (a3 + 1) a5 else ((Zg2 K a5 (rd a1 a3) (rd a5 r4)).bind fun b4 => Zd3 K a1 k (a3 + 1) b4)) else none) else none)) else some (.go a5))
def Zo3 (K : Nat) (a0 : List Int) (a1 : (List (List Int))) : Option (List Int) := ((Zd3 K a1 K 0 a0).bind (Ex.elim (fun r => some r) (fun s => (fun (b3 : List Int) => some b3) s)))
theorem Ye3 {a0 : List Int} {a1 : (List (List Int))} {r : List Int} (q0 : Zo3 K a0 a1 = some r) (e5 : Y3 (Y4 .i64) H s0 a0) (b1 : Y3 (X3 (Y4 .i64)) H s1 a1) (hS : St H w L) :
 Calls prog 164 #[s0, s1] w (T4 (fun v G => (R.sl (Y4 .i64)).p G v r) H L) := by
 have Z4 := Sub.refl H
 refine X0 func164 U ntmps164 U ?_
 unfold Zo3 at q0
 refine Z1 (Z0 (Z5 vN U U (Z2 (Z1 (Z1 (Z0 (Z5 (vI 0) U U (Z2 (Y8 ?_)))))))))
 obtain ⟨c0, a4, c1⟩ := bSm q0
 refine W3 (id := 0) (fun k f w => ∃ a3 a5 H1 a6, Zd3 K a1 k a3 a5 = some c0 ∧ Sub H H1 ∧ St H1 w L ∧ 0 ≤ a3 ∧ Y3 (Y4 .i64) H1 a6 a5 ∧ Y3 (X3 (Y4 .i64)) H1 s1 a1 ∧ tv f 0 = a6 ∧ tv f 1 = s1 ∧ tv f 5 = vI a3) (fun f w => ∃ b3 H1 b2, c0 = .go b3 ∧ Sub H H1 ∧ St H1 w L ∧ Y3 (Y4 .i64) H1 b2 b3 ∧ tv f 0 = b2) U ?_ ?_ K ?_ ?_
 rintro f w ⟨a3, a5, H1, a6, a4, _⟩
 rw [Zd3] at a4; cases a4
 rintro k _ _ d4 e6 ⟨a3, a5, d6, a6, a4, Z4, hS, _, a7, b1, a8, a9, b0⟩
 rw [Zd3] at a4
 refine Z1 (Z1 (Z0 (Z3 (vI a3) (by exact b0) U (Z3 s1 (by exact a9) U ?_))))
 have f9 := b1.bound
 refine X9 T2 U b1 U (V4 (k := .i64) (a := a3) (b := (a1.length : Int)) U U U (Z2 ?_))
 obtain ⟨c2, a4⟩ | ⟨c2, a4⟩ := ic a4
 refine Z8 (bT c2 U) (Y6 (Z1 (Y8 (Z1 (Z0 (Z3 s1 (by exact a9) U (Z3 (vI a3) (by exact b0) U ?_)))))))
 obtain ⟨_, _, _, _, _, e7, e8, ⟨u3, rfl, e9⟩, f0⟩ := b1.elem (i := a3) (by omega) (by omega)
 refine X6 T2 U U e7 U (by omega) (by omega) U (Y1 u3 Q9 U (hS.froz _ _ e8) (f0 0 (show 0 < 1 by decide)) U ?_)
 obtain ⟨r4, f1, a4⟩ := bSm a4
 refine X2 call148 (S4 U) U (Zk2 f1 e9 hS) ?_
 rintro _ H4 _ c3 hS rfl
 have Z4 := Z4.trans c3
 have a7 := a7.mono c3
 have b1 := b1.mono c3
 refine Z5 (vI r4) U U (Z2 (Z1 (Z0 (Z3 a6 (by exact a8) U (Z3 (vI r4) U U ?_)))))
 obtain ⟨_, a4⟩ := gd a4
 obtain ⟨_, a4⟩ := gd a4
 obtain ⟨_, _, _, _, _, f2, f3, rfl, f4⟩ := a7.elem (i := r4) (by omega) (by omega)
 refine X6 T1 U U f2 U (by omega) (by omega) U (Y1 (vI (rd a5 r4)) ty2 U (hS.froz _ _ f3) (f4 0 (show 0 < 1 by decide)) U (L1 (k := .i64) (a := (rd a5 r4)) (b := 0) U U U (Z2 ?_)))
 obtain ⟨c4, a4⟩ | ⟨c4, a4⟩ := ic a4
 refine Z6 (bN c4 U) (Y6 (X1 (Z0 (Z3 (vI a3) (by exact b0) U (W4 (a3 + 1) U U (i64_in _ (by omega)) U (Z5 (vI (a3 + 1)) U U (Z2 (d4 _ _ ⟨(a3 + 1), a5, H4, a6, a4, Z4, hS, (by omega), a7, b1, a8, a9, U⟩))))))))
 refine Z8 (bO c4 U) ?_
 obtain ⟨f5, f6, _, _, _, d7, d8, ⟨d5, rfl, b6⟩, d9⟩ := b1.elem (i := a3) (by omega) (by omega)
 obtain ⟨f7, f8, _, _, _, e0, e1, rfl, e2⟩ := a7.elem (i := r4) (by omega) (by omega)
 obtain ⟨b4, c8, a4⟩ := bSm a4
 refine W6 10 (S8 [mE 23 a6, mE 24 s1, mE 25 (vI a3), mE 26 (vQ f5 f6), mE 27 d5, mE 28 a6, mE 29 (vI r4), mE 30 (vQ f7 f8), mE 31 (vI (rd a5 r4)), (32, MP.rep (R.sl (Y4 .i64)) b4)]) [] mixed U U U hS (U1 (X4 fun S B => Z3 a6 (evT (B 0 U) a8) U (qz S)) (X4 fun S B => Z3 s1 (evT (B 1 U) a9) U (qz S)) (X4 fun S B => Z3 (vI a3) (evT (B 5 U) b0) U (qz S)) (Y7 fun S V => X6 T2 U (eM (V 1 24 U U)) d7 (eM (V 2 25 U U)) (by omega) (by omega) U (qz S)) (P0 fun s S V => Y1 d5 Q9 (eM (V 3 26 U U)) (S.froz _ _ (s.1 _ _ d8)) (d9 0 (show 0 < 1 by decide)) U (qz S)) (X4 fun S B => Z3 a6 (evT (B 0 U) a8) U (qz S)) (X4 fun S B => Z3 (vI r4) (evT (B 6 U) U) U (qz S)) (Y7 fun S V => X6 T1 U (eM (V 5 28 U U)) e0 (eM (V 6 29 U U)) (by omega) (by omega) U (qz S)) (L7 (P0 fun s S V => Y1 (vI (rd a5 r4)) ty2 (eM (V 7 30 U U)) (S.froz _ _ (s.1 _ _ e1)) (e2 0 (show 0 < 1 by decide)) U (qz S)) ?_ W9)) ?_
 intro _ _ _ _ c5 hS _ b5 hcq
 have a7 := a7.mono c5
 have b6 := b6.mono c5
 refine X2 call190 (I3 (eM (b5 0 23 U U)) (eM (b5 4 27 U U)) (eM (b5 8 31 U U))) U (Zs8 c8 a7 b6 hS) ?_
 rintro _ _ _ c9 hS d0
 exact qn c9 U hS d0
 intro _ e3 c6 b7 hS b8 d1 hcq
 have hS : St c6 e3 L := hS
 have Z4 := Z4.trans b7
 have b1 := b1.mono b7
 obtain ⟨c7, e4, d2⟩ := gvR (d1 9 32 (by decide) U)
 refine Z5 c7 (by exact e4) U (Z2 (X1 (Z0 (Z3 (vI a3) (by exact (evT (b8 5 U) b0)) U (W4 (a3 + 1) U U (i64_in _ (by omega)) U (Z5 (vI (a3 + 1)) U U (Z2 (d4 _ _ ⟨(a3 + 1), b4, c6, c7, a4, Z4, hS, (by omega), d2, b1, U, (evT (b8 1 U) a9), U⟩))))))))
 refine Z6 (bF c2 U) (W2 U ?_)
 cases a4
 exact e6 _ _ ⟨a5, d6, a6, U, Z4, hS, a7, a8⟩
 exact ⟨0, a0, H, s0, a4, Z4, hS, (by omega), e5, b1, U, U, U⟩
 rintro _ _ ⟨b3, _, b2, rfl, Z4, hS, d3, b9⟩
 dsimp only [Ex.elim] at c1
 refine Z1 (Z0 (Z3 b2 (by exact b9) U (Z5 b2 U U (Z2 (Y9 (vs := [b2]) func164 Ut ?_)))))
 cases c1
 exact ⟨_, _, U, Z4, hS, d3⟩
def I0 (K : Nat) (a0 a1 : MpT) : Nat → Int → Option (Ex Bool Unit)
 | 0, _ => none
 | k + 1, a3 => (if a3 < (a0.length : Int) then (if a3 < (a1.length : Int) then ((Zw0 K ((rd a0 a3).1, (rd a0 a3).2) ((rd a1 a3).1, (rd a1 a3).2)).bind fun a7 => (if a7 = true then I0 K a0 a1 k (a3 + 1) else some (.ret false))) else none) else some (.go ()))
def Zt1 (K : Nat) (a0 a1 : MpT) : Option Bool := (if (a0.length : Int) = (a1.length : Int) then ((I0 K a0 a1 K 0).bind (Ex.elim (fun r => some r) (fun s => some true))) else some false)
theorem Xc3 {a0 a1 : MpT} {r : Bool} (q0 : Zt1 K a0 a1 = some r) (a6 : Y3 yT H s0 a0) (a9 : Y3 yT H s1 a1) (hS : St H w L) :
 Calls prog 94 #[s0, s1] w (T4 (fun v G => R.bool.p G v r) H L) := by
 have Z4 := Sub.refl H
 refine X0 func94 U ntmps94 U ?_
 unfold Zt1 at q0
 refine Z1 (Z0 (Z5 (vB false) U U (Z2 (Z1 (Z1 (Z0 (Z3 s0 U U ?_)))))))
 have d9 := a6.bound
 refine X9 Q0 U a6 U (Z3 s1 U U ?_)
 have e0 := a9.bound
 refine X9 Q0 U a9 U (L1 (k := .i64) (a := (a0.length : Int)) (b := (a1.length : Int)) U U U (Z2 ?_))
 obtain ⟨b5, q0⟩ | ⟨b5, q0⟩ := ic q0
 refine Z6 (bN b5 U) (Y6 (Z1 (Z1 (Z0 (Z5 (vI 0) U U (Z2 (Y8 ?_)))))))
 obtain ⟨b6, a4, b1⟩ := bSm q0
 refine W3 (id := 0) (fun k f w => ∃ a3 H1, I0 K a0 a1 k a3 = some b6 ∧ Sub H H1 ∧ St H1 w L ∧ 0 ≤ a3 ∧ Y3 yT H1 s0 a0 ∧ Y3 yT H1 s1 a1 ∧ tv f 0 = s0 ∧ tv f 1 = s1 ∧ tv f 5 = vI a3) (fun f w => ∃ H1, b6 = .go () ∧ Sub H H1 ∧ St H1 w L) U ?_ ?_ K ?_ ?_
 rintro f w ⟨a3, H1, a4, _⟩
 rw [I0] at a4; cases a4
 rintro k _ _ d3 d4 ⟨a3, c4, a4, Z4, hS, _, a6, a9, a8, b0, a5⟩
 rw [I0] at a4
 refine Z1 (Z1 (Z0 (Z3 (vI a3) (by exact a5) U (Z3 s0 (by exact a8) U ?_))))
 have e1 := a6.bound
 refine X9 Q0 U a6 U (V4 (k := .i64) (a := a3) (b := (a0.length : Int)) U U U (Z2 ?_))
 obtain ⟨b7, a4⟩ | ⟨b7, a4⟩ := ic a4
 refine Z8 (bT b7 U) (Y6 (Z1 (Y8 (Z1 ?_))))
 obtain ⟨d5, d6, _, _, _, c5, c6, ⟨_, _, rfl, rfl, rfl⟩, c7⟩ := a6.elem (i := a3) (by omega) (by omega)
 obtain ⟨_, a4⟩ := gd a4
 obtain ⟨d7, d8, _, _, _, c8, c9, ⟨_, _, rfl, rfl, rfl⟩, d0⟩ := a9.elem (i := a3) (by omega) (by omega)
 obtain ⟨a7, c1, a4⟩ := bSm a4
 refine W6 10 (S8 [mE 17 s0, mE 18 (vI a3), mE 19 (vQ d5 d6), mE 20 (vA (Z7 .u8 (rd a0 a3).1 ++ [vI (rd a0 a3).2])), mE 21 s1, mE 22 (vI a3), mE 23 (vQ d7 d8), mE 24 (vA (Z7 .u8 (rd a1 a3).1 ++ [vI (rd a1 a3).2])), mE 25 (vB a7), mE 26 (vB (!a7))]) [] mixed U U U hS (U1 (X4 fun S B => Z3 s0 (evT (B 0 U) a8) U (qz S)) (X4 fun S B => Z3 (vI a3) (evT (B 5 U) a5) U (qz S)) (Y7 fun S V => X6 Q0 U (eM (V 0 17 U U)) c5 (eM (V 1 18 U U)) (by omega) (by omega) U (qz S)) (P0 fun s S V => U0 (Z7 .u8 (rd a0 a3).1 ++ [vI (rd a0 a3).2]) Yb3 (eM (V 2 19 U U)) (S.froz _ _ (s.1 _ _ c6)) U c7 U (qz S)) (X4 fun S B => Z3 s1 (evT (B 1 U) b0) U (qz S)) (X4 fun S B => Z3 (vI a3) (evT (B 5 U) a5) U (qz S)) (Y7 fun S V => X6 Q0 U (eM (V 4 21 U U)) c8 (eM (V 5 22 U U)) (by omega) (by omega) U (qz S)) (P0 fun s S V => U0 (Z7 .u8 (rd a1 a3).1 ++ [vI (rd a1 a3).2]) Yb3 (eM (V 6 23 U U)) (S.froz _ _ (s.1 _ _ c9)) U d0 U (qz S)) (L7 ?_ ?_ W9)) ?_
 intro _ _ _ _ _ hS _ b8 hcq
 refine X2 call168 (W8 (eM (b8 3 20 U U)) (eM (b8 7 24 U U))) U (Xg7 c1  hS) ?_
 rintro _ _ _ c2 hS rfl
 exact qn c2 U hS U
 exact Y7 fun S V => P5 (b := a7) (eM (V 8 25 U U)) U (qz S)
 intro d1 d2 b9 b2 hS b3 c3 hcq
 have hS : St b9 d2 L := hS
 have Z4 := Z4.trans b2
 have a6 := a6.mono b2
 have a9 := a9.mono b2
 have c0 : tv d1 26 = vB (!a7) := c3 9 26 (by decide) U
 refine Z2 ?_
 obtain ⟨b4, a4⟩ | ⟨b4, a4⟩ := ic a4
 refine Z6 (Eq.trans (by exact c0) (congrArg (fun b => vB (!b)) b4)) (Y6 (X1 (Z0 (Z3 (vI a3) (by exact (evT (b3 5 U) a5)) U (W4 (a3 + 1) U U (i64_in _ (by omega)) U (Z5 (vI (a3 + 1)) U U (Z2 (d3 _ _ ⟨(a3 + 1), b9, a4, Z4, hS, (by omega), a6, a9, (evT (b3 0 U) a8), (evT (b3 1 U) b0), U⟩))))))))
 refine Z8 (Eq.trans (by exact c0) (congrArg (fun b => vB (!b)) (X8 b4))) (Z1 (Z0 (Z5 (vB false) U U (Z2 (Y9 (vs := [vB false]) func94 Ut ?_)))))
 cases a4
 dsimp only [Ex.elim] at b1
 cases b1
 exact ⟨_, _, U, Z4, hS, U⟩
 refine Z6 (bF b7 U) (W2 U ?_)
 cases a4
 exact d4 _ _ ⟨c4, U, Z4, hS⟩
 exact ⟨0, H, a4, Z4, hS, (by omega), a6, a9, U, U, U⟩
 rintro _ _ ⟨_, rfl, Z4, hS⟩
 dsimp only [Ex.elim] at b1
 refine Z1 (Z0 (Z5 (vB true) U U (Z2 (Y9 (vs := [vB true]) func94 Ut ?_))))
 cases b1
 exact ⟨_, _, U, Z4, hS, U⟩
 refine Z8 (bO b5 U) (Z1 (Z0 (Z5 (vB false) U U (Z2 (Y9 (vs := [vB false]) func94 Ut ?_)))))
 cases q0
 exact ⟨_, _, U, Z4, hS, U⟩
def Zm2 (K : Nat) (a0 : List Int) (a1 : MpT) (a2 : Int) : Option Bool := ((Zh1 K a0 a1).bind fun r4 => (if r4.2 = true then (if r4.1 = (-1) then some true else some (decide (r4.1 = a2))) else some false))
theorem Yu1 {a0 : List Int} {a1 : MpT} {a2 : Int} {r : Bool} (q0 : Zm2 K a0 a1 a2 = some r) (a5 : Y3 (Y4 .i64) H s0 a0) (a6 : Y3 yT H s1 a1) (hS : St H w L) :
 Calls prog 122 #[s0, vA [s1], vI a2] w (T4 (fun v G => R.bool.p G v r) H L) := by
 have Z4 := Sub.refl H
 refine X0 func122 U ntmps122 U ?_
 unfold Zm2 at q0
 refine Z1 (Z0 (T8 (v := vA [s1]) [s1].toArray U U hS U (fun _ _ hS => Z5 (vB false) U U (Z2 (Z1 (Z0 (Z3 s0 U U (X5 U7 U (hS.get mL) U U ?_))))))))
 obtain ⟨r4, a7, q0⟩ := bSm q0
 refine X2 call127 (W8 U U) U (Yi5 a7 a5 a6 hS) ?_
 rintro _ _ _ a8 hS ⟨_, _, rfl, rfl, rfl⟩
 have Z4 := Z4.trans a8
 refine Z3 (Value.tuple #[vI r4.1, vB r4.2]) U U (V1 (vI r4.1) U U U (V1 (vB r4.2) U U U (Z5 (vI r4.1) U U (Z5 (vB r4.2) U U (Z2 (Z1 (Z0 (Z3 (vB r4.2) U U (Z3 (vB r4.2) U U ?_)))))))))
 obtain ⟨a3, q0⟩ | ⟨a3, q0⟩ := ic q0
 refine Y0 U U (Eq.trans U (congrArg vB a3)) (Z3 (vI r4.1) U U (Y0 U U (Eq.trans U (congrArg vB a3)) (Zb2 (k := .i64) (a := r4.1) (b := (-1)) U U U (Y0 U U (Eq.trans U (congrArg vB a3)) (Z3 (vB (decide (r4.1 = (-1)))) U U ?_)))))
 obtain ⟨a4, q0⟩ | ⟨a4, q0⟩ := ic q0
 refine Z9 U U (bT a4 U) U U U (Z9 U U (bT a4 U) U U U (Z9 U U (bT a4 U) U U U (Y0 U U (Eq.trans U (congrArg vB a3)) (W5 (t := true) (vB true) (bT a4 U) ((if_pos U).trans U) U (W5 (t := true) (vB true) (Eq.trans U (congrArg vB a3)) ((if_pos U).trans U) U (Z5 (vB true) U U (Z2 (Y9 (vs := [vB true]) func122 Ut ?_))))))))
 cases q0
 exact ⟨_, _, U, Z4, (St.dA hS), U⟩
 refine Y0 U U (bF a4 U) (Z3 (vI r4.1) U U (Y0 U U (bF a4 U) (Z3 (vI a2) U U (Y0 U U (bF a4 U) (Zb2 (k := .i64) (a := r4.1) (b := a2) U U U (Y0 U U (Eq.trans U (congrArg vB a3)) (W5 (t := false) (vB (decide (r4.1 = a2))) (bF a4 U) ((if_neg Bool.false_ne_true).trans U) U (W5 (t := true) (vB (decide (r4.1 = a2))) (Eq.trans U (congrArg vB a3)) ((if_pos U).trans U) U (Z5 (vB (decide (r4.1 = a2))) U U (Z2 (Y9 (vs := [vB (decide (r4.1 = a2))]) func122 Ut ?_)))))))))))
 cases q0
 exact ⟨_, _, U, Z4, (St.dA hS), U⟩
 refine Z9 U U (Eq.trans U (congrArg vB (X8 a3))) U U U (Z9 U U (Eq.trans U (congrArg vB (X8 a3))) U U U (Z9 U U (Eq.trans U (congrArg vB (X8 a3))) U U U (V2 U U U U U (V2 U U U U U (V2 U U U U U (Z9 U U (Eq.trans U (congrArg vB (X8 a3))) U U U (W5 (t := false) (vB false) (Eq.trans U (congrArg vB (X8 a3))) ((if_neg Bool.false_ne_true).trans U) U (Z5 (vB false) U U (Z2 (Y9 (vs := [vB false]) func122 Ut ?_))))))))))
 cases q0
 exact ⟨_, _, U, Z4, (St.dA hS), U⟩
def Zl9 (K : Nat) (a0 : List Int) : Option Bool := (if (a0.length : Int) ≤ 8 then ((L3 K a0 (fun x => Zn1 K x)).bind fun r3 => some (!r3)) else some false)
theorem Yw2 {a0 : List Int} {r : Bool} (q0 : Zl9 K a0 = some r) (a3 : Y3 (Y4 .i64) H s0 a0) (hS : St H w L) :
 Calls prog 120 #[s0] w (T4 (fun v G => R.bool.p G v r) H L) := by
 have Z4 := Sub.refl H
 refine X0 func120 U ntmps120 U ?_
 unfold Zl9 at q0
 refine Z1 (Z0 (Z5 (vB false) U U (Z2 (Z1 (Z0 (Z3 s0 U U ?_))))))
 have a8 := a3.bound
 refine X9 T1 U a3 U (Yj8 (k := .i64) (a := (a0.length : Int)) (b := 8) U U U (Z3 (vB (decide ((a0.length : Int) ≤ 8))) U U ?_))
 obtain ⟨a1, q0⟩ | ⟨a1, q0⟩ := ic q0
 refine Y0 U U (bT a1 U) (Z3 s0 U U ?_)
 obtain ⟨r3, a4, q0⟩ := bSm q0
 refine Y0 rfl rfl (bT a1 rfl) (X2 call172 (W8 rfl rfl) rfl (Zy1 a4 a3 ⟨210, #[], rfl, call210, fun H2 w2 L2 v x b a9 a5 hv a6 => by obtain rfl := hv; exact Yo5 a6   a5⟩ hS) ?_)
 rintro _ _ _ a7 hS rfl
 have Z4 := Z4.trans a7
 refine Y0 U U (bT a1 U) (P5 (b := r3) U U (W5 (t := true) (vB (!r3)) (bT a1 U) ((if_pos U).trans U) U (Z5 (vB (!r3)) U U (Z2 (Y9 (vs := [vB (!r3)]) func120 Ut ?_)))))
 cases q0
 exact ⟨_, _, U, Z4, hS, U⟩
 refine Z9 U U (bF a1 U) U U U (Z9 U U (bF a1 U) U U U (Z9 U U (bF a1 U) U U U (W5 (t := false) (vB false) (bF a1 U) ((if_neg Bool.false_ne_true).trans U) U (Z5 (vB false) U U (Z2 (Y9 (vs := [vB false]) func120 Ut ?_))))))
 cases q0
 exact ⟨_, _, U, Z4, hS, U⟩
def Zl4 (K : Nat) (a0 : List Int) : Option Bool := ((Zr6 K a0).bind fun r1 => some (decide (r1 < 0)))
theorem Yo3 {a0 : List Int} {r : Bool} (q0 : Zl4 K a0 = some r) (a1 : Y3 (Y4 .i64) H s0 a0) (hS : St H w L) :
 Calls prog 87 #[s0] w (T4 (fun v G => R.bool.p G v r) H L) := by
 have Z4 := Sub.refl H
 refine X0 func87 U ntmps87 U ?_
 unfold Zl4 at q0
 refine Z1 (Z0 (Z5 (vB false) U U (Z2 (Z1 (Z0 (Z3 s0 U U ?_))))))
 obtain ⟨r1, a3, q0⟩ := bSm q0
 refine X2 call159 (S4 U) U (Yf4 a3 a1 hS) ?_
 rintro _ _ _ a4 hS rfl
 have Z4 := Z4.trans a4
 refine V4 (k := .i64) (a := r1) (b := 0) U U U (Z5 (vB (decide (r1 < 0))) U U (Z2 (Y9 (vs := [vB (decide (r1 < 0))]) func87 Ut ?_)))
 cases q0
 exact ⟨_, _, U, Z4, hS, U⟩
end Go.Proofs.YtabofnehiclkiaaGreat
