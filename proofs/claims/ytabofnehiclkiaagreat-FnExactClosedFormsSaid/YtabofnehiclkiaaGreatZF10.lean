/- Walks of functions: each computes its pure function, if that gives a value. -/
import Derived.Test.YtabofnehiclkiaaGreatZF7
import Derived.Test.YtabofnehiclkiaaGreatZF8
import Derived.Test.YtabofnehiclkiaaGreatZF6
namespace Go.Proofs.YtabofnehiclkiaaGreat
open Go Go.Proofs.Tryz
set_option linter.unusedSimpArgs false
set_option linter.unusedVariables false
set_option maxRecDepth 100000
set_option maxHeartbeats 8000000
variable {K : Nat} {H : FH} {w : World} {L : OL} {s0 s1 s2 s3 s4 s5 s6 : Value}
instance : DecidableEq A8 := fun a b => decidable_of_iff _ (Ze0 (a := a) (b := b))
theorem Xu8 (K : Nat) (x : Int) : Zm4 K x = some (x % 10007) := by
 unfold Zm4
 have h1 : -10007 < x.tmod 10007 ∧ x.tmod 10007 < 10007 := by
  constructor
  have := Int.tmod_lt_of_pos (-x) (show (0 : Int) < 10007 by decide)
  rw [Int.neg_tmod] at this; omega
  exact Int.tmod_lt_of_pos x (by decide)
 rw [IntWalk.i64_in _ (by omega)]
 congr 1
 rw [Int.tmod_eq_emod_of_nonneg (by omega)]
 rw [Int.add_emod_right]
 rcases Int.emod_two_eq x with _ | _ <;> (rw [Int.tmod_eq_emod]; split <;> omega)
def Zu9 (s : MpT) (p : A8) (f : Int) : MpT := if (N5 s p + f) % 10007 = 0 then Zw1 s p else Zb4 s p ((N5 s p + f) % 10007)
theorem Yi1 {s : MpT} (h : nfm s = true) (a : A8) : 0 ≤ N5 s a ∧ N5 s a ≤ 10006 := by
 by_cases hm : a ∈ s.map Prod.fst
 obtain ⟨⟨b, x⟩, hp, rfl⟩ := List.mem_map.1 hm
 rw [Yk7 (Zs4 (F9 h)) hp]
 have := Ye0 h _ hp
 simp only at this ⊢; omega
 rw [Zi4 hm]; omega
theorem Yk0 {K : Nat} {s : MpT} {p : A8} {f : Int} (h : nfm s = true ∧ -4611686018427387904 ≤ f ∧ f ≤ 4611686018427387904) : T3 K s p f = some (Zu9 s p f) := by
 unfold T3 Zu9
 rw [if_pos h]
 have hb := Yi1 h.1 p
 rw [IntWalk.i64_in _ (by omega), Xu8]
 simp only [Option.bind_some]
 split <;> rfl
theorem Yd1 {s : MpT} {a : A8} {q : A8 × Int} : q ∈ Zw1 s a ↔ q ∈ s ∧ q.1 ≠ a := by
 unfold Zw1
 rw [List.mem_filter]
 constructor
 rintro ⟨h1, h2⟩
 refine ⟨h1, fun e => ?_⟩
 rw [e, Ze0.2 rfl] at h2; simp at h2
 rintro ⟨h1, h2⟩
 refine ⟨h1, ?_⟩
 cases e : eq8 a q.1 with
 | false => rfl
 | true => exact absurd (Ze0.1 e).symm h2
theorem Ya6 {s : MpT} {a : A8} {x : Int} {q : A8 × Int} : q ∈ Zb4 s a x ↔ q = (a, x) ∨ q ∈ s ∧ q.1 ≠ a := by
 unfold Zb4
 rw [(Zt1 _ _).mem_iff, List.mem_cons, Yd1]
theorem Zh1 {s : MpT} (h : nfm s = true) (p : A8) (f : Int) : nfm (Zu9 s p f) = true := by
 unfold Zu9
 split
 exact Yg3 (Xe2 (F9 h) p) (fun q hq => Ye0 h q (Yd1.1 hq).1)
 refine Yg3 (Yj4 (F9 h) p _) (fun q hq => ?_)
 rcases Ya6.1 hq with rfl | hq
 simp only; omega
 exact Ye0 h q hq.1
theorem Zx6 {s : MpT} (hs : Srt s) {a : A8} {x : Int} (h : (a, x) ∈ s) : N5 s a = x := Yk7 (Zs4 hs) h
theorem Zv4 {s : MpT} (h : nfm s = true) (p : A8) (f : Int) (a : A8) : N5 (Zu9 s p f) a = if a = p then (N5 s p + f) % 10007 else N5 s a := by
 have hs := F9 h
 have h' := F9 (Zh1 h p f)
 unfold Zu9 at h' ⊢
 split
 rename_i h0
 rw [if_pos h0] at h'
 by_cases e : a = p
 subst e
 rw [if_pos rfl, h0, Zi4]
 intro hm
 obtain ⟨q, hq, e⟩ := List.mem_map.1 hm
 exact (Yd1.1 hq).2 e
 rw [if_neg e]
 by_cases hm : a ∈ s.map Prod.fst
 obtain ⟨⟨b, x⟩, hq, rfl⟩ := List.mem_map.1 hm
 rw [Zx6 hs hq, Zx6 h' (Yd1.2 ⟨hq, e⟩)]
 rw [Zi4 hm, Zi4]
 intro hm'
 obtain ⟨q, hq, rfl⟩ := List.mem_map.1 hm'
 exact hm (List.mem_map.2 ⟨q, (Yd1.1 hq).1, rfl⟩)
 rename_i h0
 rw [if_neg h0] at h'
 by_cases e : a = p
 subst e
 rw [if_pos rfl, Zx6 h' (Ya6.2 (.inl rfl))]
 rw [if_neg e]
 by_cases hm : a ∈ s.map Prod.fst
 obtain ⟨⟨b, x⟩, hq, rfl⟩ := List.mem_map.1 hm
 rw [Zx6 hs hq, Zx6 h' (Ya6.2 (.inr ⟨hq, e⟩))]
 rw [Zi4 hm, Zi4]
 intro hm'
 obtain ⟨q, hq, rfl⟩ := List.mem_map.1 hm'
 rcases Ya6.1 hq with rfl | hq
 exact e rfl
 exact hm (List.mem_map.2 ⟨q, hq.1, rfl⟩)
theorem Wj7 {s t : MpT} (hs : nfm s = true) (ht : nfm t = true) (h : ∀ a, N5 s a = N5 t a) : s = t := by
 have key : ∀ {s t : MpT}, nfm s = true → nfm t = true → (∀ a, N5 s a = N5 t a) → ∀ q, q ∈ s → q ∈ t := by
  intro s t hs ht h q hq
  have h1 := Zx6 (F9 hs) (a := q.1) (x := q.2) hq
  rw [h] at h1
  by_cases hm : q.1 ∈ t.map Prod.fst
  obtain ⟨⟨b, x⟩, hp, e⟩ := List.mem_map.1 hm
  simp only at e
  subst e
  rw [Zx6 (F9 ht) hp] at h1
  subst h1; exact hp
  rw [Zi4 hm] at h1
  have := Ye0 hs q hq
  omega
 refine Xg3 (F9 hs) (F9 ht) ?_
 refine (List.perm_ext_iff_of_nodup ?_ ?_).2 (fun q => ⟨key hs ht h q, key ht hs (fun a => (h a).symm) q⟩)
 exact List.Pairwise.of_map Prod.fst (fun a b hab e => hab (by rw [e])) (Zs4 (F9 hs))
 exact List.Pairwise.of_map Prod.fst (fun a b hab e => hab (by rw [e])) (Zs4 (F9 ht))
theorem Wj1 (K : Nat) (s : MpT) (p q : A8) (f g : Int) : (T3 K s p f).bind (fun s => T3 K s q g) = (T3 K s q g).bind (fun s => T3 K s p f) := by
 have hnone : ∀ (s : MpT) (p : A8) (f : Int), ¬ (nfm s = true ∧ -4611686018427387904 ≤ f ∧ f ≤ 4611686018427387904) → T3 K s p f = none := by
  intro s p f h
  unfold T3; rw [if_neg h]
 by_cases hs : nfm s = true
 case neg => rw [hnone s p f (fun h => hs h.1), hnone s q g (fun h => hs h.1)]; rfl
 by_cases hf : -4611686018427387904 ≤ f ∧ f ≤ 4611686018427387904
 case neg =>
  rw [hnone s p f (fun h => hf h.2)]
  cases h : T3 K s q g with
  | none => rfl
  | some t => simp [hnone t p f (fun h => hf h.2)]
 by_cases hg : -4611686018427387904 ≤ g ∧ g ≤ 4611686018427387904
 case neg =>
  rw [hnone s q g (fun h => hg h.2)]
  cases h : T3 K s p f with
  | none => rfl
  | some t => simp [hnone t q g (fun h => hg h.2)]
 rw [Yk0 ⟨hs, hf⟩, Yk0 ⟨hs, hg⟩]
 simp only [Option.bind_some]
 rw [Yk0 ⟨Zh1 hs p f, hg⟩, Yk0 ⟨Zh1 hs q g, hf⟩]
 congr 1
 refine Wj7 (Zh1 (Zh1 hs p f) q g) (Zh1 (Zh1 hs q g) p f) (fun a => ?_)
 rw [Zv4 (Zh1 hs p f), Zv4 (Zh1 hs q g), Zv4 hs, Zv4 hs, Zv4 hs, Zv4 hs]
 by_cases e1 : a = p
 by_cases e2 : a = q
 subst e1; subst e2
 simp only [if_true]
 omega
 rw [if_neg e2, if_pos e1, if_pos e1, if_neg (fun e => e2 (e1.trans e))]
 rw [if_neg e1, if_neg e1]
 by_cases e2 : a = q
 rw [if_pos e2, if_pos e2, if_neg (fun e => e1 (e2.trans e))]
 rw [if_neg e2, if_neg e2]
def L4 (K : Nat) : List (A8 × Int) → MpT → Option MpT
 | [], s => some s
 | o :: os, s => (T3 K s o.1 o.2).bind (L4 K os)
theorem Yf5 {K : Nat} : ∀ (xs ys : List (A8 × Int)) (s : MpT), L4 K (xs ++ ys) s = (L4 K xs s).bind (L4 K ys)
 | [], _, _ => rfl
 | x :: xs, ys, s => by
  show (T3 K s x.1 x.2).bind (L4 K (xs ++ ys)) = ((T3 K s x.1 x.2).bind (L4 K xs)).bind (L4 K ys)
  cases T3 K s x.1 x.2 with
  | none => rfl
  | some t => exact Yf5 xs ys t
theorem Xr2 {K : Nat} {xs ys : List (A8 × Int)} (hp : xs.Perm ys) : ∀ s, L4 K xs s = L4 K ys s := by
 induction hp with
 | nil => intro s; rfl
 | cons x _ ih =>
  intro s
  show (T3 K s x.1 x.2).bind _ = (T3 K s x.1 x.2).bind _
  congr 1; funext t; exact ih t
 | swap x y l =>
  intro s
  have h := congrArg (fun o => Option.bind o (L4 K l)) (Wj1 K s y.1 x.1 y.2 x.2)
  simp only [Option.bind_assoc] at h
  exact h
 | trans _ _ ih1 ih2 => intro s; rw [ih1, ih2]
def Zs3 (K : Nat) (A : MpT → Option MpT) : Prop := ∃ o : Option (List (A8 × Int)), ∀ s, A s = o.bind fun ops => L4 K ops s
def Zq1 (K : Nat) {ρ σ X : Type} (h : X → MpT → σ) (A : MpT → Option (Ex ρ σ)) : Prop := ∃ o : Option (List (A8 × Int) × X), ∀ s, A s = o.bind fun p => (L4 K p.1 s).map fun t => .go (h p.2 t)
section
variable {K : Nat} {A B : MpT → Option MpT} {ρ σ X : Type} {h : X → MpT → σ}
theorem Zs3.comm (hA : Zs3 K A) (hB : Zs3 K B) (s : MpT) : (A s).bind B = (B s).bind A := by
 obtain ⟨a, ha⟩ := hA
 obtain ⟨b, hb⟩ := hB
 have e1 : A = fun s => a.bind fun ops => L4 K ops s := funext ha
 have e2 : B = fun s => b.bind fun ops => L4 K ops s := funext hb
 subst e1; subst e2
 cases a with
 | none => cases b with
  | none => rfl
  | some y => simp only [Option.bind_none, Option.bind_some]; cases L4 K y s <;> rfl
 | some x => cases b with
  | none => simp only [Option.bind_none, Option.bind_some]; cases L4 K x s <;> rfl
  | some y =>
   simp only [Option.bind_some]
   show (L4 K x s).bind (L4 K y) = (L4 K y s).bind (L4 K x)
   rw [← Yf5, ← Yf5]
   exact Xr2 List.perm_append_comm s
theorem Zs3.skip : Zs3 K (fun s => some s) := ⟨some [], fun _ => rfl⟩
theorem Zs3.fail : Zs3 K (fun _ => none) := ⟨none, fun _ => rfl⟩
theorem Zs3.add (p : A8) (f : Int) : Zs3 K (fun s => T3 K s p f) := ⟨some [(p, f)], fun s => by simp [L4]⟩
theorem Zs3.const {β : Type} {c : Option β} {B : β → MpT → Option MpT} (hB : ∀ r, Zs3 K (B r)) : Zs3 K (fun s => c.bind fun r => B r s) := by
 cases c with
 | none => exact .fail
 | some r => exact hB r
theorem Zs3.ite {c : Prop} [Decidable c] (hA : Zs3 K A) (hB : Zs3 K B) : Zs3 K (fun s => if c then A s else B s) := by
 by_cases hc : c
 simp only [if_pos hc]; exact hA
 simp only [if_neg hc]; exact hB
theorem Zq1.go (x : X) : Zq1 K (ρ := ρ) h (fun s => some (.go (h x s))) := ⟨some ([], x), fun _ => rfl⟩
theorem Zq1.fail : Zq1 K (ρ := ρ) h (fun _ => none) := ⟨none, fun _ => rfl⟩
theorem Zq1.bind {B : MpT → Option (Ex ρ σ)} (hA : Zs3 K A) (hB : Zq1 K h B) : Zq1 K h (fun s => (A s).bind B) := by
 obtain ⟨a, ha⟩ := hA
 obtain ⟨b, hb⟩ := hB
 have e1 : A = fun s => a.bind fun ops => L4 K ops s := funext ha
 have e2 : B = fun s => b.bind fun p => (L4 K p.1 s).map fun t => .go (h p.2 t) := funext hb
 subst e1; subst e2
 cases a with
 | none => exact .fail
 | some x => cases b with
  | none => exact ⟨none, fun s => by simp only [Option.bind_none, Option.bind_some]; cases L4 K x s <;> rfl⟩
  | some y =>
   refine ⟨some (x ++ y.1, y.2), fun s => ?_⟩
   simp only [Option.bind_some]
   rw [Yf5]
   cases L4 K x s <;> rfl
theorem Zq1.const {β : Type} {c : Option β} {B : β → MpT → Option (Ex ρ σ)} (hB : ∀ r, Zq1 K h (B r)) : Zq1 K h (fun s => c.bind fun r => B r s) := by
 cases c with
 | none => exact .fail
 | some r => exact hB r
theorem Zq1.ite {c : Prop} [Decidable c] {A B : MpT → Option (Ex ρ σ)} (hA : Zq1 K h A) (hB : Zq1 K h B) : Zq1 K h (fun s => if c then A s else B s) := by
 by_cases hc : c
 simp only [if_pos hc]; exact hA
 simp only [if_neg hc]; exact hB
theorem Zq1.step {A : MpT → Option (Ex ρ σ)} (hA : Zq1 K h A) (pr : σ → MpT) (hp : ∀ x s, pr (h x s) = s) :
 ∃ F, Zs3 K F ∧ ∀ {τ : Type} (R : ρ → Option τ) (C : MpT → Option τ) (s : MpT), (A s).bind (Ex.elim R fun y => C (pr y)) = (F s).bind C := by
 obtain ⟨a, ha⟩ := hA
 refine ⟨fun s => a.bind fun p => L4 K p.1 s, ?_, fun R C s => ?_⟩
 cases a with
 | none => exact .fail
 | some p => exact ⟨some p.1, fun _ => rfl⟩
 rw [ha]
 cases a with
 | none => rfl
 | some p =>
  simp only [Option.bind_some]
  cases L4 K p.1 s with
  | none => rfl
  | some t =>
   show C (pr (h p.2 t)) = C t
   rw [hp]
theorem Yl8 (L : Nat → MpT → MpT → Option (Ex ρ σ)) (h0 : ∀ zs s, L 0 zs s = none) (hF : ∀ z, ∃ F, Zs3 K F ∧ ∀ k zs s, L (k + 1) (z :: zs) s = (F s).bind (L k zs)) {zp zq : MpT} (hp : zp.Perm zq) :
 ∀ k s, L k zp s = L k zq s := by
 induction hp with
 | nil => intro k s; rfl
 | cons z _ ih =>
  intro k s
  cases k with
  | zero => rw [h0, h0]
  | succ k =>
   obtain ⟨F, _, hc⟩ := hF z
   rw [hc, hc]
   congr 1; funext t; exact ih k t
 | swap x y l =>
  intro k s
  obtain ⟨Fx, ax, hx⟩ := hF x
  obtain ⟨Fy, ay, hy⟩ := hF y
  cases k with
  | zero => rw [h0, h0]
  | succ k =>
   rw [hx, hy]
   cases k with
   | zero =>
    have e1 : L 0 (x :: l) = fun _ => none := funext fun s => h0 _ s
    have e2 : L 0 (y :: l) = fun _ => none := funext fun s => h0 _ s
    rw [e1, e2]
    cases Fx s <;> cases Fy s <;> rfl
   | succ k =>
    have e1 : L (k + 1) (x :: l) = fun s => (Fx s).bind (L k l) := funext fun s => hx k l s
    have e2 : L (k + 1) (y :: l) = fun s => (Fy s).bind (L k l) := funext fun s => hy k l s
    rw [e1, e2]
    have := congrArg (fun o => Option.bind o (L k l)) (ay.comm ax s)
    simp only [Option.bind_assoc] at this
    exact this
 | trans _ _ ih1 ih2 => intro k s; rw [ih1, ih2]
end
def Yx0 (xs : MpT) : Bool := xs.all fun p => (l8 p.1).all fun x => decide (0 ≤ x ∧ x ≤ 2305843009213693952)
def Zq7 (K : Nat) (a0 : MpT) : Option (List A8) := if Yx0 a0 = true ∧ a0.length < K ∧ a0.length ≤ 1000000000 then some (a0.map Prod.fst) else none
theorem Wk7 {xs : MpT} (h : Yx0 xs = true) : ∀ a, a ∈ xs.map Prod.fst → ∀ i, 0 ≤ a i ∧ a i ≤ 2305843009213693952 := by
 intro a ha i
 obtain ⟨p, hp, rfl⟩ := List.mem_map.1 ha
 have h1 := List.all_eq_true.1 (List.all_eq_true.1 h p hp)
 have : ∀ x, x ∈ l8 p.1 → 0 ≤ x ∧ x ≤ 2305843009213693952 := fun x hx => by simpa using h1 x hx
 apply this
 unfold l8
 match i with
 | 0 | 1 | 2 | 3 | 4 | 5 | 6 | 7 => simp
theorem Va7 {xs : MpT} (hs : Srt xs) {ys : List A8} (hp : ys.Perm (xs.map Prod.fst)) (hy : ys.Pairwise fun p q => bef p q = true) : ys = xs.map Prod.fst := by
 have h1 : Srt (ys.map fun a => (a, (0 : Int))) := by
  unfold Srt
  rw [List.pairwise_map]; exact hy
 have h2 : Srt ((xs.map Prod.fst).map fun a => (a, (0 : Int))) := by
  unfold Srt
  rw [List.map_map, List.pairwise_map]; exact hs
 have h3 := congrArg (List.map Prod.fst) (Xg3 h1 h2 (hp.map _))
 simpa [List.map_map, Function.comp_def] using h3
def Yp4 (H : FH) (v : Value) (xs : List A8) (C : OL) : Prop := ∃ b c cs, v = .slice (some ⟨b, 0, none⟩) xs.length c ∧ xs.length ≤ c ∧ c ≤ maxLen ∧ cs.size = c * 8 ∧ C = [(b, .cells cs 222)] ∧
 ∀ i x, xs[i]? = some x → ∀ j, j < 8 → cs[i * 8 + j]? = (Z6 .i64 x)[j]?
theorem Yp4.of {H : FH} {v : Value} {xs : List A8} {C : OL} (h : X8 (Q9 .i64) 222 H v xs C) (hn : xs ≠ []) : Yp4 H v xs C := by
 rcases h with ⟨_, h, _⟩ | ⟨b, c, cs, h1, h2, h3, h4, h5, h6⟩
 exact absurd h hn
 refine ⟨b, c, cs, h1, h2, h3, h4, h5, fun i x hx j hj => ?_⟩
 obtain ⟨ecs, hr, hj'⟩ := h6 i x hx
 have hr : ecs = Z6 .i64 x := hr
 subst hr
 exact hj' j hj
theorem Vc1 {n : Nat} {f : Fr} {w : World} {H : FH} {L : OL} {ops : Array Oper} {J : Fr → World → Prop} {r : List Oper} {T : TypeId} {d : Nat} {pos : String} {af : Array Edge} (hS : St H w L) (hn : Nat.blt d n = true)
 (K : ∀ u w' C', X8 (Q9 .i64) 222 H u [] C' → Yp4 H u [] C' → St H w' (C' ++ L) → X6 prog n ops J r (upd f d u) w') : X6 prog n ops J (⟨some d, .buildSlice 98 0 #[], T, pos, af, none⟩ :: r) f w := by
 have hrun := Zr6 (P := prog) (w := w) Ya2 Zk4 [] rfl (by simp) (by simp)
 refine V6 (v := .slice (some ⟨w.heap.size, 0, none⟩) 0 0) (w' := w.alloc (.cells #[] 222)) rfl rfl hn (by have h := hrun; simp only [execOp]; exact I6 (by simpa using h))
  (K _ _ [(w.heap.size, .cells #[] 222)] (.inr ⟨w.heap.size, 0, #[], rfl, by simp, by simp [maxLen], by simp, rfl, by simp⟩) ⟨w.heap.size, 0, #[], rfl, by simp, by simp [maxLen], by simp, rfl, by simp⟩ (hS.alloc _))
theorem Yo8 {a0 : MpT} {r : List A8} (q0 : Zq7 K a0 = some r) (hs0 : N1 .i64 H s0 a0) (hS : St H w L) :
 Calls prog 195 #[s0] w (U7 (fun v G => (R.sl (Q9 .i64)).p G v r) H L) := by
 have Z4 := Sub.refl H
 refine X0 func195 rfl ntmps195 rfl ?_
 unfold Zq7 at q0
 by_cases hg : Yx0 a0 = true ∧ a0.length < K ∧ a0.length ≤ 1000000000
 case neg => rw [if_neg hg] at q0; cases q0
 rw [if_pos hg] at q0
 obtain ⟨hok, hK, hlen⟩ := hg
 cases q0
 refine Z1 ?_
 refine Z0 ?_
 refine Z5 (Value.slice none 0 0) rfl rfl ?_
 refine Z2 ?_
 refine Z1 ?_
 refine Z0 ?_
 refine Vc1 hS rfl ?_
 intro u1 w2 C3 ho4 hnb0 hS
 have hS : St H w2 (C3 ++ L) := hS
 refine Z5 (u1) rfl rfl ?_
 refine Z2 ?_
 refine Z1 ?_
 refine Z1 ?_
 refine Z0 ?_
 refine Z3 (s0) rfl rfl ?_
 refine Yi4 Zq8 rfl hs0 hS rfl ?_
 intro it6 w7 C8 ho9 hS
 have hS : St H w7 (C8 ++ (C3 ++ L)) := hS
 refine Z2 ?_
 refine Y8 ?_
 refine W0 (id := 0) (fun k f w => ∃ (x0_own10 : MpT) (x0_own5 : (List A8)) (H1 : FH) (Cx0_own10 : OL) (Cx0_own5 : OL) (ux0_own5 : Value), ((x0_own5 ++ x0_own10.map Prod.fst).Perm (a0.map Prod.fst) ∧ x0_own10.length < k ∧ (x0_own5 = [] → Yp4 H1 ux0_own5 x0_own5 Cx0_own5)) ∧ Sub H H1 ∧ St H1 w (Cx0_own10 ++ (Cx0_own5 ++ L)) ∧ Zg2 .i64 H1 it6 x0_own10 none Cx0_own10 ∧ X8 (Q9 .i64) 222 H1 ux0_own5 x0_own5 Cx0_own5 ∧ tv f 3 = ux0_own5 ∧ tv f 7 = it6) (fun f w => ∃ (y0_own5 : (List A8)) (H1 : FH) (Cy0_own10 : OL) (Cy0_own5 : OL) (uy0_own5 : Value), (y0_own5.Perm (a0.map Prod.fst) ∧ Yp4 H1 uy0_own5 y0_own5 Cy0_own5) ∧ Sub H H1 ∧ St H1 w (Cy0_own10 ++ (Cy0_own5 ++ L)) ∧ Zg2 .i64 H1 it6 ([] : MpT) none Cy0_own10 ∧ X8 (Q9 .i64) 222 H1 uy0_own5 y0_own5 Cy0_own5 ∧ tv f 3 = uy0_own5) rfl ?_ ?_ K ?_ ?_
 rintro f w ⟨x0_own10, x0_own5, H1, Cx0_own10, Cx0_own5, ux0_own5, ⟨_, hk, _⟩, _⟩
 omega
 rintro k _ _ ih0 hx0 ⟨x0_own10, x0_own5, H1_0, Cx0_own10, Cx0_own5, ux0_own5, ⟨hpm, hk, hnb⟩, Z4, hS, hox0_own10, hox0_own5, ff1_0_3, ff1_0_7⟩
 refine Z1 ?_
 refine Z0 ?_
 refine Yo0 (by exact ff1_0_7) hox0_own10 hS rfl ?_ ?_
 intro hr11; subst hr11
 refine V3 (vB false) rfl rfl rfl ?_
 refine Z2 ?_
 refine Z1 ?_
 refine Z7 rfl ?_
 refine X7 rfl ?_
 have hnb' : Yp4 H1_0 ux0_own5 x0_own5 Cx0_own5 := by
  by_cases h : x0_own5 = []
  exact hnb h
  exact Yp4.of hox0_own5 h
 exact hx0 _ _ ⟨x0_own5, H1_0, Cx0_own10, Cx0_own5, ux0_own5, ⟨by simpa using hpm, hnb'⟩, Z4, hS, hox0_own10, hox0_own5, ff1_0_3⟩
 intro z12 zr13 w14 C15 hp16 hi17 hS
 have hS : St H1_0 w14 (C15 ++ (Cx0_own5 ++ L)) := hS
 have hlz := hp16.length_eq
 rw [List.length_cons] at hlz
 have hpm2 : ((x0_own5 ++ [z12.1]) ++ zr13.map Prod.fst).Perm (a0.map Prod.fst) := by
  refine List.Perm.trans ?_ hpm
  rw [List.append_assoc]
  refine List.Perm.append_left _ ?_
  exact (hp16.map Prod.fst).symm
 have hll := hpm.length_eq
 rw [List.length_append, List.length_map, List.length_map] at hll
 refine V3 (vB true) rfl rfl rfl ?_
 refine Z2 ?_
 refine Z1 ?_
 refine Z8 rfl ?_
 refine Y6 ?_
 refine Y8 ?_
 refine Z1 ?_
 refine Z0 ?_
 refine Yi5 (by exact ff1_0_7) hi17 hS rfl ?_
 refine V3 (Value.agg (Z6 .i64 z12.1).toArray) rfl rfl rfl ?_
 refine U4 (z := Value.agg (Z6 .i64 (fun _ => 0)).toArray) (Z6 .i64 (fun _ => 0)).toArray Zk4.zero rfl hS rfl ?_
 intro b18 w19 hS
 have hS : St H1_0 w19 ([(b18, .cells (Z6 .i64 (fun _ => 0)).toArray 222)] ++ (C15 ++ (Cx0_own5 ++ L))) := hS
 refine W4 (v := Value.agg (Z6 .i64 z12.1).toArray) (vs := (Z6 .i64 z12.1).toArray) (cs := (Z6 .i64 (fun _ => 0)).toArray) Q6 rfl rfl rfl hS rfl (S8 .i64 z12.1) rfl ?_
 intro w21 hS
 have hS : St H1_0 w21 ([(b18, .cells (Z6 .i64 z12.1).toArray 222)] ++ (C15 ++ (Cx0_own5 ++ L))) := hS
 refine Z2 ?_
 refine Z0 ?_
 refine Z3 (ux0_own5) (by exact ff1_0_3) rfl ?_
 refine W3 Q6 rfl (hS.own (b18, .cells (Z6 .i64 z12.1).toArray 222) (List.mem_append_left _ (List.mem_singleton.2 rfl))) rfl rfl ?_
 refine Zc2 (τ := (Q9 .i64)) Ya2 Zk4 rfl [Value.agg (Z6 .i64 z12.1).toArray] [z12.1] rfl rfl (E7 rfl) (Zk6 rfl) (by decide) (by decide) hS rfl ?_
 intro _ H23 w24 sb25 hS hl26
 have Z4 := Z4.trans sb25
 have hox0_own5 := hox0_own5.mono sb25
 have hi17 := hi17.mono sb25
 have hS : St H23 w24 ([(b18, .cells (Z6 .i64 z12.1).toArray 222)] ++ (C15 ++ (Cx0_own5 ++ L))) := hS
 have hg27 : x0_own5.length + ([z12.1]).length ≤ 1099511627776 := by simp; omega
 have hS : St H23 w24 (Cx0_own5 ++ ([(b18, .cells (Z6 .i64 z12.1).toArray 222)] ++ (C15 ++ L))) := hS.perm (Zb1 (A1 := [(b18, .cells (Z6 .i64 z12.1).toArray 222)]) (A2 := C15))
 refine N6 (τ := (Q9 .i64)) Vg9 rfl rfl rfl hox0_own5 hS hl26 hg27 rfl ?_
 intro u28 w29 C30 ho31 hS
 have hS : St H23 w29 (C30 ++ ([(b18, .cells (Z6 .i64 z12.1).toArray 222)] ++ (C15 ++ L))) := hS
 have hS : St H23 w29 ([(b18, .cells (Z6 .i64 z12.1).toArray 222)] ++ (C15 ++ (C30 ++ L))) := hS.perm (Zb1 (A1 := [(b18, .cells (Z6 .i64 z12.1).toArray 222)]) (A2 := C15)).symm
 refine Z5 (u28) rfl rfl ?_
 refine Z2 ?_
 refine X1 ?_
 have hS := St.dropA (A := [(b18, .cells (Z6 .i64 z12.1).toArray 222)]) hS
 exact ih0 _ _ ⟨zr13, (x0_own5 ++ [z12.1]), H23, C15, C30, u28, ⟨hpm2, by omega, fun h => absurd h (by simp)⟩, Z4, hS, hi17.drop, ho31, rfl, ff1_0_7⟩
 exact ⟨a0, ([] : List A8), H, C8, C3, u1, ⟨by simp, hK, fun _ => hnb0⟩, Z4, hS, ho9, ho4, rfl, rfl⟩
 rintro _ _ ⟨y0_own5, _, Cy0_own10, Cy0_own5, uy0_own5, ⟨hpm, hnb⟩, Z4, hS, _, _, ff2_0_3⟩
 obtain ⟨b, c, cs, rfl, h2, h3, h4, rfl, h6⟩ := hnb
 refine Z1 ?_
 refine Z0 ?_
 refine Z3 _ (by exact ff2_0_3) rfl ?_
 have hS := hS.dropA
 have hll := hpm.length_eq
 rw [List.length_map] at hll
 have hnd : y0_own5.Nodup := hpm.nodup_iff.2 (Zs4 hs0.srt)
 refine U9 (vs := #[.slice (some ⟨b, 0, none⟩) y0_own5.length c, .func (.func 213) #[] #[]]) call257 (V2 rfl rfl) rfl (Vb1 h2 h3 h4 h6 hS (fun a ha => Wk7 hok a (hpm.mem_iff.1 ha)) (by omega) hnd) ?_
 rintro _ _ ⟨rfl, ys, _, hp5, hsr, hS, ho5⟩
 refine ⟨_, rfl, ?_⟩
 refine Z2 ?_
 refine Z1 ?_
 refine Z0 ?_
 refine Z3 _ (by exact ff2_0_3) rfl ?_
 refine Z5 _ rfl rfl ?_
 refine Z2 ?_
 refine Y9 (vs := [.slice (some ⟨b, 0, none⟩) y0_own5.length c]) func195 ⟨rfl, trivial⟩ ?_
 obtain ⟨_, sb33, hS, hf34⟩ := ho5.freeze hS
 have Z4 := Z4.trans sb33
 have he := Va7 hs0.srt (hp5.trans hpm) hsr
 rw [he] at hf34
 exact ⟨_, _, rfl, Z4, hS, hf34⟩
def Zc3 (K : Nat) (a1 : (List (List Int))) : Nat → Int → (List Int) → Option (Ex (List Int) ((List Int)))
 | 0, _, _ => none
 | k + 1, a3, a5 => (if a3 < (a1.length : Int) then ((B8 K (rd a1 a3)).bind fun r4 => (if 0 ≤ r4 then (if r4 < (a5.length : Int) then (if (rd a5 r4) = 0 then Zc3 K a1 k (a3 + 1) a5 else ((Zh0 K a5 (rd a1 a3) (rd a5 r4)).bind fun b4 => Zc3 K a1 k (a3 + 1) b4)) else none) else none)) else some (.go a5))
def Zv5 (K : Nat) (a0 : (List Int)) (a1 : (List (List Int))) : Option (List Int) := ((Zc3 K a1 K 0 a0).bind (Ex.elim (fun r => some r) (fun s => (fun (b3 : (List Int)) => some b3) s)))
theorem Xg6 {a0 : (List Int)} {a1 : (List (List Int))} {r : (List Int)} (q0 : Zv5 K a0 a1 = some r) (e5 : Y3 (Y5 .i64) H s0 a0) (b1 : Y3 (X2 (Y5 .i64)) H s1 a1) (hS : St H w L) :
 Calls prog 164 #[s0, s1] w (U7 (fun v G => (R.sl (Y5 .i64)).p G v r) H L) := by
 have Z4 := Sub.refl H
 refine X0 func164 rfl ntmps164 rfl ?_
 unfold Zv5 at q0
 refine Z1 (Z0 (Z5 (vN) rfl rfl (Z2 (Z1 (Z1 (Z0 (Z5 (vI 0) rfl rfl (Z2 (Y8 ?_)))))))))
 obtain ⟨c0, a4, c1⟩ := bind_some q0
 refine W0 (id := 0) (fun k f w => ∃ (a3 : Int) (a5 : (List Int)) (H1 : FH) (a6 : Value), Zc3 K a1 k a3 a5 = some c0 ∧ Sub H H1 ∧ St H1 w (L) ∧ 0 ≤ a3 ∧ Y3 (Y5 .i64) H1 a6 a5 ∧ Y3 (X2 (Y5 .i64)) H1 s1 a1 ∧ tv f 0 = a6 ∧ tv f 1 = s1 ∧ tv f 5 = vI a3) (fun f w => ∃ (b3 : (List Int)) (H1 : FH) (b2 : Value), c0 = .go b3 ∧ Sub H H1 ∧ St H1 w (L) ∧ Y3 (Y5 .i64) H1 b2 b3 ∧ tv f 0 = b2) rfl ?_ ?_ K ?_ ?_
 rintro f w ⟨a3, a5, H1, a6, a4, _⟩
 rw [Zc3] at a4; cases a4
 rintro k _ _ d4 e6 ⟨a3, a5, d6, a6, a4, Z4, hS, _, a7, b1, a8, a9, b0⟩
 rw [Zc3] at a4
 refine Z1 (Z1 (Z0 (Z3 (vI a3) (by exact b0) rfl (Z3 (s1) (by exact a9) rfl ?_))))
 have f9 := b1.bound
 refine X9 T2 rfl b1 rfl ?_
 refine W8 (k := .i64) (a := a3) (b := (a1.length : Int)) rfl rfl rfl (Z2 ?_)
 obtain ⟨c2, a4⟩ | ⟨c2, a4⟩ := ic a4
 refine Z8 (bT c2 rfl) (Y6 (Z1 (Y8 (Z1 (Z0 (Z3 (s1) (by exact a9) rfl (Z3 (vI a3) (by exact b0) rfl ?_)))))))
 obtain ⟨_, _, _, _, _, e7, e8, ⟨u3, rfl, e9⟩, f0⟩ := b1.elem (i := a3) (by omega) (by omega)
 refine X5 T2 rfl rfl e7 rfl (by omega) (by omega) rfl ?_
 refine Y0 (u3) P4 rfl (hS.froz _ _ e8) (f0 0 (show 0 < 1 by decide)) rfl ?_
 obtain ⟨r4, f1, a4⟩ := bind_some a4
 refine X3 call148 (R3 rfl) rfl (Zo9 f1 e9 hS) ?_
 rintro _ H4 _ c3 hS rfl
 have Z4 := Z4.trans c3
 have a7 := a7.mono c3
 have b1 := b1.mono c3
 refine Z5 (vI r4) rfl rfl (Z2 (Z1 (Z0 (Z3 (a6) (by exact a8) rfl (Z3 (vI r4) rfl rfl ?_)))))
 obtain ⟨_, a4⟩ := gd a4
 obtain ⟨_, a4⟩ := gd a4
 obtain ⟨_, _, _, _, _, f2, f3, rfl, f4⟩ := a7.elem (i := r4) (by omega) (by omega)
 refine X5 U5 rfl rfl f2 rfl (by omega) (by omega) rfl ?_
 refine Y0 (vI (rd a5 r4)) ty2 rfl (hS.froz _ _ f3) (f4 0 (show 0 < 1 by decide)) rfl ?_
 refine M0 (k := .i64) (a := (rd a5 r4)) (b := 0) rfl rfl rfl (Z2 ?_)
 obtain ⟨c4, a4⟩ | ⟨c4, a4⟩ := ic a4
 refine Z7 (bN c4 rfl) (Y6 (X1 (Z0 (Z3 (vI a3) (by exact b0) rfl ?_))))
 refine W2 (a3 + 1) rfl rfl (IntWalk.i64_in _ (by omega)) rfl (Z5 (vI (a3 + 1)) rfl rfl (Z2 ?_))
 exact d4 _ _ ⟨(a3 + 1), a5, H4, a6, a4, Z4, hS, (by omega), a7, b1, a8, a9, rfl⟩
 refine Z8 (bO c4 rfl) ?_
 obtain ⟨f5, f6, _, _, _, d7, d8, ⟨d5, rfl, b6⟩, d9⟩ := b1.elem (i := a3) (by omega) (by omega)
 obtain ⟨f7, f8, _, _, _, e0, e1, rfl, e2⟩ := a7.elem (i := r4) (by omega) (by omega)
 obtain ⟨b4, c8, a4⟩ := bind_some a4
 refine W7 10 (S9 [mE 23 (a6), mE 24 (s1), mE 25 (vI a3), mE 26 (vQ f5 f6), mE 27 (d5), mE 28 (a6), mE 29 (vI r4), mE 30 (vQ f7 f8), mE 31 (vI (rd a5 r4)), (32, MP.rep (R.sl (Y5 .i64)) (b4))]) [] mixed rfl rfl rfl hS (V9 ?_ ?_ ?_ ?_ ?_ ?_ ?_ ?_ (J2 ?_ ?_ V1)) ?_
 exact X4 fun S B => Z3 (a6) (evT (B 0 rfl) a8) rfl (qz S)
 exact X4 fun S B => Z3 (s1) (evT (B 1 rfl) a9) rfl (qz S)
 exact X4 fun S B => Z3 (vI a3) (evT (B 5 rfl) b0) rfl (qz S)
 exact Y7 fun S V => X5 T2 rfl (eM (V 1 24 rfl rfl)) d7 (eM (V 2 25 rfl rfl)) (by omega) (by omega) rfl (qz S)
 exact P0 fun s S V => Y0 (d5) P4 (eM (V 3 26 rfl rfl)) (S.froz _ _ (s.1 _ _ d8)) (d9 0 (show 0 < 1 by decide)) rfl (qz S)
 exact X4 fun S B => Z3 (a6) (evT (B 0 rfl) a8) rfl (qz S)
 exact X4 fun S B => Z3 (vI r4) (evT (B 6 rfl) rfl) rfl (qz S)
 exact Y7 fun S V => X5 U5 rfl (eM (V 5 28 rfl rfl)) e0 (eM (V 6 29 rfl rfl)) (by omega) (by omega) rfl (qz S)
 exact P0 fun s S V => Y0 (vI (rd a5 r4)) ty2 (eM (V 7 30 rfl rfl)) (S.froz _ _ (s.1 _ _ e1)) (e2 0 (show 0 < 1 by decide)) rfl (qz S)
 intro _ _ _ _ c5 hS _ b5 hcq
 have a7 := a7.mono c5
 have b6 := b6.mono c5
 refine X3 call190 (D8 (eM (b5 0 23 rfl rfl)) (eM (b5 4 27 rfl rfl)) (eM (b5 8 31 rfl rfl))) rfl (Zz0 c8 a7 b6 hS) ?_
 rintro _ _ _ c9 hS d0
 exact qn c9 rfl hS d0
 intro _ e3 c6 b7 hS b8 d1 hcq
 have hS : St c6 e3 (L) := hS
 have Z4 := Z4.trans b7
 have b1 := b1.mono b7
 obtain ⟨c7, e4, d2⟩ := gvR (d1 9 32 (by decide) rfl)
 refine Z5 (c7) (by exact e4) rfl (Z2 (X1 (Z0 (Z3 (vI a3) (by exact (evT (b8 5 rfl) b0)) rfl ?_))))
 refine W2 (a3 + 1) rfl rfl (IntWalk.i64_in _ (by omega)) rfl (Z5 (vI (a3 + 1)) rfl rfl (Z2 ?_))
 exact d4 _ _ ⟨(a3 + 1), b4, c6, c7, a4, Z4, hS, (by omega), d2, b1, rfl, (evT (b8 1 rfl) a9), rfl⟩
 refine Z7 (bF c2 rfl) ?_
 refine X7 rfl ?_
 obtain rfl := oi a4
 exact e6 _ _ ⟨a5, d6, a6, rfl, Z4, hS, a7, a8⟩
 exact ⟨0, a0, H, s0, a4, Z4, hS, (by omega), e5, b1, rfl, rfl, rfl⟩
 rintro _ _ ⟨b3, _, b2, rfl, Z4, hS, d3, b9⟩
 dsimp only [Ex.elim] at c1
 refine Z1 (Z0 (Z3 (b2) (by exact b9) rfl (Z5 (b2) rfl rfl (Z2 ?_))))
 refine Y9 (vs := [b2]) func164 ⟨rfl, trivial⟩ ?_
 obtain rfl := oi c1
 exact ⟨_, _, rfl, Z4, hS, d3⟩
def K9 (K : Nat) (a0 : MpT) (a1 : MpT) : Nat → Int → Option (Ex Bool (Unit))
 | 0, _ => none
 | k + 1, a3 => (if a3 < (a0.length : Int) then (if a3 < (a1.length : Int) then ((Zt2 K ((rd a0 a3).1, (rd a0 a3).2) ((rd a1 a3).1, (rd a1 a3).2)).bind fun a7 => (if a7 = true then K9 K a0 a1 k (a3 + 1) else some (.ret false))) else none) else some (.go ()))
def Zr0 (K : Nat) (a0 : MpT) (a1 : MpT) : Option Bool := (if (a0.length : Int) = (a1.length : Int) then ((K9 K a0 a1 K 0).bind (Ex.elim (fun r => some r) (fun s => some true))) else some false)
theorem Yy8 {a0 : MpT} {a1 : MpT} {r : Bool} (q0 : Zr0 K a0 a1 = some r) (a6 : Y3 yT H s0 a0) (a9 : Y3 yT H s1 a1) (hS : St H w L) :
 Calls prog 94 #[s0, s1] w (U7 (fun v G => R.bool.p G v r) H L) := by
 have Z4 := Sub.refl H
 refine X0 func94 rfl ntmps94 rfl ?_
 unfold Zr0 at q0
 refine Z1 (Z0 (Z5 (vB false) rfl rfl (Z2 (Z1 (Z1 (Z0 (Z3 (s0) rfl rfl ?_)))))))
 have d9 := a6.bound
 refine X9 R9 rfl a6 rfl (Z3 (s1) rfl rfl ?_)
 have e0 := a9.bound
 refine X9 R9 rfl a9 rfl ?_
 refine M0 (k := .i64) (a := (a0.length : Int)) (b := (a1.length : Int)) rfl rfl rfl (Z2 ?_)
 obtain ⟨b5, q0⟩ | ⟨b5, q0⟩ := ic q0
 refine Z7 (bN b5 rfl) (Y6 (Z1 (Z1 (Z0 (Z5 (vI 0) rfl rfl (Z2 (Y8 ?_)))))))
 obtain ⟨b6, a4, b1⟩ := bind_some q0
 refine W0 (id := 0) (fun k f w => ∃ (a3 : Int) (H1 : FH), K9 K a0 a1 k a3 = some b6 ∧ Sub H H1 ∧ St H1 w (L) ∧ 0 ≤ a3 ∧ Y3 yT H1 s0 a0 ∧ Y3 yT H1 s1 a1 ∧ tv f 0 = s0 ∧ tv f 1 = s1 ∧ tv f 5 = vI a3) (fun f w => ∃ (H1 : FH), b6 = .go () ∧ Sub H H1 ∧ St H1 w (L)) rfl ?_ ?_ K ?_ ?_
 rintro f w ⟨a3, H1, a4, _⟩
 rw [K9] at a4; cases a4
 rintro k _ _ d3 d4 ⟨a3, c4, a4, Z4, hS, _, a6, a9, a8, b0, a5⟩
 rw [K9] at a4
 refine Z1 (Z1 (Z0 (Z3 (vI a3) (by exact a5) rfl (Z3 (s0) (by exact a8) rfl ?_))))
 have e1 := a6.bound
 refine X9 R9 rfl a6 rfl ?_
 refine W8 (k := .i64) (a := a3) (b := (a0.length : Int)) rfl rfl rfl (Z2 ?_)
 obtain ⟨b7, a4⟩ | ⟨b7, a4⟩ := ic a4
 refine Z8 (bT b7 rfl) (Y6 (Z1 (Y8 (Z1 ?_))))
 obtain ⟨d5, d6, _, _, _, c5, c6, ⟨_, _, rfl, rfl, rfl⟩, c7⟩ := a6.elem (i := a3) (by omega) (by omega)
 obtain ⟨_, a4⟩ := gd a4
 obtain ⟨d7, d8, _, _, _, c8, c9, ⟨_, _, rfl, rfl, rfl⟩, d0⟩ := a9.elem (i := a3) (by omega) (by omega)
 obtain ⟨a7, c1, a4⟩ := bind_some a4
 refine W7 10 (S9 [mE 17 (s0), mE 18 (vI a3), mE 19 (vQ d5 d6), mE 20 (vA (Z6 .u8 ((rd a0 a3).1) ++ [vI ((rd a0 a3).2)])), mE 21 (s1), mE 22 (vI a3), mE 23 (vQ d7 d8), mE 24 (vA (Z6 .u8 ((rd a1 a3).1) ++ [vI ((rd a1 a3).2)])), mE 25 (vB a7), mE 26 (vB (!a7))]) [] mixed rfl rfl rfl hS (V9 ?_ ?_ ?_ ?_ ?_ ?_ ?_ ?_ (J2 ?_ ?_ V1)) ?_
 exact X4 fun S B => Z3 (s0) (evT (B 0 rfl) a8) rfl (qz S)
 exact X4 fun S B => Z3 (vI a3) (evT (B 5 rfl) a5) rfl (qz S)
 exact Y7 fun S V => X5 R9 rfl (eM (V 0 17 rfl rfl)) c5 (eM (V 1 18 rfl rfl)) (by omega) (by omega) rfl (qz S)
 exact P0 fun s S V => V0 (Z6 .u8 ((rd a0 a3).1) ++ [vI ((rd a0 a3).2)]) Zy7 (eM (V 2 19 rfl rfl)) (S.froz _ _ (s.1 _ _ c6)) rfl c7 rfl (qz S)
 exact X4 fun S B => Z3 (s1) (evT (B 1 rfl) b0) rfl (qz S)
 exact X4 fun S B => Z3 (vI a3) (evT (B 5 rfl) a5) rfl (qz S)
 exact Y7 fun S V => X5 R9 rfl (eM (V 4 21 rfl rfl)) c8 (eM (V 5 22 rfl rfl)) (by omega) (by omega) rfl (qz S)
 exact P0 fun s S V => V0 (Z6 .u8 ((rd a1 a3).1) ++ [vI ((rd a1 a3).2)]) Zy7 (eM (V 6 23 rfl rfl)) (S.froz _ _ (s.1 _ _ c9)) rfl d0 rfl (qz S)
 intro _ _ _ _ _ hS _ b8 hcq
 refine X3 call168 (V2 (eM (b8 3 20 rfl rfl)) (eM (b8 7 24 rfl rfl))) rfl (Xd9 c1  hS) ?_
 rintro _ _ _ c2 hS rfl
 exact qn c2 rfl hS rfl
 exact Y7 fun S V => N8 (b := a7) (eM (V 8 25 rfl rfl)) rfl (qz S)
 intro d1 d2 b9 b2 hS b3 c3 hcq
 have hS : St b9 d2 (L) := hS
 have Z4 := Z4.trans b2
 have a6 := a6.mono b2
 have a9 := a9.mono b2
 have c0 : tv d1 26 = vB (!a7) := c3 9 26 (by decide) rfl
 refine Z2 ?_
 obtain ⟨b4, a4⟩ | ⟨b4, a4⟩ := ic a4
 refine Z7 (Eq.trans (by exact c0) (congrArg (fun b => vB (!b)) b4)) (Y6 (X1 (Z0 (Z3 (vI a3) (by exact (evT (b3 5 rfl) a5)) rfl ?_))))
 refine W2 (a3 + 1) rfl rfl (IntWalk.i64_in _ (by omega)) rfl (Z5 (vI (a3 + 1)) rfl rfl (Z2 ?_))
 exact d3 _ _ ⟨(a3 + 1), b9, a4, Z4, hS, (by omega), a6, a9, (evT (b3 0 rfl) a8), (evT (b3 1 rfl) b0), rfl⟩
 refine Z8 (Eq.trans (by exact c0) (congrArg (fun b => vB (!b)) (W1 b4))) (Z1 (Z0 (Z5 (vB false) rfl rfl (Z2 ?_))))
 refine Y9 (vs := [vB false]) func94 ⟨rfl, trivial⟩ ?_
 obtain rfl := oi a4
 dsimp only [Ex.elim] at b1
 obtain rfl := oi b1
 exact ⟨_, _, rfl, Z4, hS, rfl⟩
 refine Z7 (bF b7 rfl) ?_
 refine X7 rfl ?_
 obtain rfl := oi a4
 exact d4 _ _ ⟨c4, rfl, Z4, hS⟩
 exact ⟨0, H, a4, Z4, hS, (by omega), a6, a9, rfl, rfl, rfl⟩
 rintro _ _ ⟨_, rfl, Z4, hS⟩
 dsimp only [Ex.elim] at b1
 refine Z1 (Z0 (Z5 (vB true) rfl rfl (Z2 ?_)))
 refine Y9 (vs := [vB true]) func94 ⟨rfl, trivial⟩ ?_
 obtain rfl := oi b1
 exact ⟨_, _, rfl, Z4, hS, rfl⟩
 refine Z8 (bO b5 rfl) (Z1 (Z0 (Z5 (vB false) rfl rfl (Z2 ?_))))
 refine Y9 (vs := [vB false]) func94 ⟨rfl, trivial⟩ ?_
 obtain rfl := oi q0
 exact ⟨_, _, rfl, Z4, hS, rfl⟩
def Zj8 (K : Nat) (a0 : (List Int)) (a1 : MpT) (a2 : Int) : Option Bool := ((Zv0 K a0 a1).bind fun r4 => (if r4.2 = true then (if r4.1 = (-1) then some true else some (decide (r4.1 = a2))) else some false))
theorem Yp9 {a0 : (List Int)} {a1 : MpT} {a2 : Int} {r : Bool} (q0 : Zj8 K a0 a1 a2 = some r) (a5 : Y3 (Y5 .i64) H s0 a0) (a6 : Y3 yT H s1 a1) (hS : St H w L) :
 Calls prog 122 #[s0, vA ([s1]), vI a2] w (U7 (fun v G => R.bool.p G v r) H L) := by
 have Z4 := Sub.refl H
 refine X0 func122 rfl ntmps122 rfl ?_
 unfold Zj8 at q0
 refine Z1 (Z0 ?_)
 refine T7 (v := vA ([s1])) ([s1]).toArray rfl rfl hS rfl ?_
 intro _ _ hS
 refine Z5 (vB false) rfl rfl (Z2 (Z1 (Z0 (Z3 (s0) rfl rfl ?_))))
 refine W3 Q4 rfl (hS.get mL) rfl rfl ?_
 obtain ⟨r4, a7, q0⟩ := bind_some q0
 refine X3 call127 (V2 rfl rfl) rfl (Yw6 a7 a5 a6 hS) ?_
 rintro _ _ _ a8 hS ⟨_, _, rfl, rfl, rfl⟩
 have Z4 := Z4.trans a8
 refine Z3 (Value.tuple #[vI r4.1, vB r4.2]) rfl rfl (V3 (vI r4.1) rfl rfl rfl (V3 (vB r4.2) rfl rfl rfl (Z5 (vI r4.1) rfl rfl (Z5 (vB r4.2) rfl rfl (Z2 (Z1 (Z0 (Z3 (vB r4.2) rfl rfl (Z3 (vB r4.2) rfl rfl ?_)))))))))
 obtain ⟨a3, q0⟩ | ⟨a3, q0⟩ := ic q0
 refine Y1 rfl rfl (Eq.trans rfl (congrArg vB a3)) (Z3 (vI r4.1) rfl rfl ?_)
 refine Y1 rfl rfl (Eq.trans rfl (congrArg vB a3)) ?_
 refine Za0 (k := .i64) (a := r4.1) (b := (-1)) rfl rfl rfl ?_
 refine Y1 rfl rfl (Eq.trans rfl (congrArg vB a3)) (Z3 (vB (decide (r4.1 = (-1)))) rfl rfl ?_)
 obtain ⟨a4, q0⟩ | ⟨a4, q0⟩ := ic q0
 refine Z9 rfl rfl (bT a4 rfl) rfl rfl rfl (Z9 rfl rfl (bT a4 rfl) rfl rfl rfl (Z9 rfl rfl (bT a4 rfl) rfl rfl rfl ?_))
 refine Y1 rfl rfl (Eq.trans rfl (congrArg vB a3)) ?_
 refine W6 (t := true) (vB true) (bT a4 rfl) ((if_pos rfl).trans rfl) rfl ?_
 refine W6 (t := true) (vB true) (Eq.trans rfl (congrArg vB a3)) ((if_pos rfl).trans rfl) rfl (Z5 (vB true) rfl rfl (Z2 ?_))
 refine Y9 (vs := [vB true]) func122 ⟨rfl, trivial⟩ ?_
 obtain rfl := oi q0
 exact ⟨_, _, rfl, Z4, (St.dropA hS), rfl⟩
 refine Y1 rfl rfl (bF a4 rfl) (Z3 (vI r4.1) rfl rfl ?_)
 refine Y1 rfl rfl (bF a4 rfl) (Z3 (vI a2) rfl rfl ?_)
 refine Y1 rfl rfl (bF a4 rfl) ?_
 refine Za0 (k := .i64) (a := r4.1) (b := a2) rfl rfl rfl ?_
 refine Y1 rfl rfl (Eq.trans rfl (congrArg vB a3)) ?_
 refine W6 (t := false) (vB (decide (r4.1 = a2))) (bF a4 rfl) ((if_neg Bool.false_ne_true).trans rfl) rfl ?_
 refine W6 (t := true) (vB (decide (r4.1 = a2))) (Eq.trans rfl (congrArg vB a3)) ((if_pos rfl).trans rfl) rfl (Z5 (vB (decide (r4.1 = a2))) rfl rfl (Z2 ?_))
 refine Y9 (vs := [vB (decide (r4.1 = a2))]) func122 ⟨rfl, trivial⟩ ?_
 obtain rfl := oi q0
 exact ⟨_, _, rfl, Z4, (St.dropA hS), rfl⟩
 refine Z9 rfl rfl (Eq.trans rfl (congrArg vB (W1 a3))) rfl rfl rfl (Z9 rfl rfl (Eq.trans rfl (congrArg vB (W1 a3))) rfl rfl rfl (Z9 rfl rfl (Eq.trans rfl (congrArg vB (W1 a3))) rfl rfl rfl ?_))
 refine U2 rfl rfl rfl rfl rfl ?_
 refine U2 rfl rfl rfl rfl rfl ?_
 refine U2 rfl rfl rfl rfl rfl (Z9 rfl rfl (Eq.trans rfl (congrArg vB (W1 a3))) rfl rfl rfl ?_)
 refine W6 (t := false) (vB false) (Eq.trans rfl (congrArg vB (W1 a3))) ((if_neg Bool.false_ne_true).trans rfl) rfl (Z5 (vB false) rfl rfl (Z2 ?_))
 refine Y9 (vs := [vB false]) func122 ⟨rfl, trivial⟩ ?_
 obtain rfl := oi q0
 exact ⟨_, _, rfl, Z4, (St.dropA hS), rfl⟩
def Zk1 (K : Nat) (a0 : (List Int)) : Option Bool := (if (a0.length : Int) ≤ 8 then ((R8 K a0 (fun x => Zl1 K x)).bind fun r3 => some (!r3)) else some false)
theorem Ys3 {a0 : (List Int)} {r : Bool} (q0 : Zk1 K a0 = some r) (a3 : Y3 (Y5 .i64) H s0 a0) (hS : St H w L) :
 Calls prog 120 #[s0] w (U7 (fun v G => R.bool.p G v r) H L) := by
 have Z4 := Sub.refl H
 refine X0 func120 rfl ntmps120 rfl ?_
 unfold Zk1 at q0
 refine Z1 (Z0 (Z5 (vB false) rfl rfl (Z2 (Z1 (Z0 (Z3 (s0) rfl rfl ?_))))))
 have a8 := a3.bound
 refine X9 U5 rfl a3 rfl ?_
 refine Yh6 (k := .i64) (a := (a0.length : Int)) (b := 8) rfl rfl rfl (Z3 (vB (decide ((a0.length : Int) ≤ 8))) rfl rfl ?_)
 obtain ⟨a1, q0⟩ | ⟨a1, q0⟩ := ic q0
 refine Y1 rfl rfl (bT a1 rfl) (Z3 (s0) rfl rfl ?_)
 obtain ⟨r3, a4, q0⟩ := bind_some q0
 refine Y1 rfl rfl (bT a1 rfl) ?_
 refine X3 call172 (V2 rfl rfl) rfl (Zh8 a4 a3 ⟨210, #[], rfl, call210, fun H2 w2 L2 v x b a9 a5 hv a6 => by obtain rfl := hv; exact Yl3 a6   a5⟩ hS) ?_
 rintro _ _ _ a7 hS rfl
 have Z4 := Z4.trans a7
 refine Y1 rfl rfl (bT a1 rfl) (N8 (b := r3) rfl rfl ?_)
 refine W6 (t := true) (vB (!r3)) (bT a1 rfl) ((if_pos rfl).trans rfl) rfl (Z5 (vB (!r3)) rfl rfl (Z2 ?_))
 refine Y9 (vs := [vB (!r3)]) func120 ⟨rfl, trivial⟩ ?_
 obtain rfl := oi q0
 exact ⟨_, _, rfl, Z4, hS, rfl⟩
 refine Z9 rfl rfl (bF a1 rfl) rfl rfl rfl (Z9 rfl rfl (bF a1 rfl) rfl rfl rfl (Z9 rfl rfl (bF a1 rfl) rfl rfl rfl ?_))
 refine W6 (t := false) (vB false) (bF a1 rfl) ((if_neg Bool.false_ne_true).trans rfl) rfl (Z5 (vB false) rfl rfl (Z2 ?_))
 refine Y9 (vs := [vB false]) func120 ⟨rfl, trivial⟩ ?_
 obtain rfl := oi q0
 exact ⟨_, _, rfl, Z4, hS, rfl⟩
def Zu0 (K : Nat) (a0 : (List Int)) : Option Bool := ((Zu4 K a0).bind fun r1 => some (decide (r1 < 0)))
theorem Xc7 {a0 : (List Int)} {r : Bool} (q0 : Zu0 K a0 = some r) (a1 : Y3 (Y5 .i64) H s0 a0) (hS : St H w L) :
 Calls prog 87 #[s0] w (U7 (fun v G => R.bool.p G v r) H L) := by
 have Z4 := Sub.refl H
 refine X0 func87 rfl ntmps87 rfl ?_
 unfold Zu0 at q0
 refine Z1 (Z0 (Z5 (vB false) rfl rfl (Z2 (Z1 (Z0 (Z3 (s0) rfl rfl ?_))))))
 obtain ⟨r1, a3, q0⟩ := bind_some q0
 refine X3 call159 (R3 rfl) rfl (Yo4 a3 a1 hS) ?_
 rintro _ _ _ a4 hS rfl
 have Z4 := Z4.trans a4
 refine W8 (k := .i64) (a := r1) (b := 0) rfl rfl rfl (Z5 (vB (decide (r1 < 0))) rfl rfl (Z2 ?_))
 refine Y9 (vs := [vB (decide (r1 < 0))]) func87 ⟨rfl, trivial⟩ ?_
 obtain rfl := oi q0
 exact ⟨_, _, rfl, Z4, hS, rfl⟩
def Zo4 (K : Nat) (a0 : Int) : Option Bool := ((Zy1 K a0).bind fun r1 => some (!r1))
theorem Yu9 {a0 : Int} {r : Bool} (q0 : Zo4 K a0 = some r) (hS : St H w L) :
 Calls prog 173 #[vI a0] w (U7 (fun v G => R.bool.p G v r) H L) := by
 have Z4 := Sub.refl H
 refine X0 func173 rfl ntmps173 rfl ?_
 unfold Zo4 at q0
 refine Z1 (Z0 (Z5 (vB false) rfl rfl (Z2 (Z1 (Z0 (Z3 (vI a0) rfl rfl ?_))))))
 obtain ⟨r1, a1, q0⟩ := bind_some q0
 refine X3 call174 (R3 rfl) rfl (Yy5 a1  hS) ?_
 rintro _ _ _ a3 hS rfl
 have Z4 := Z4.trans a3
 refine N8 (b := r1) rfl rfl (Z5 (vB (!r1)) rfl rfl (Z2 ?_))
 refine Y9 (vs := [vB (!r1)]) func173 ⟨rfl, trivial⟩ ?_
 obtain rfl := oi q0
 exact ⟨_, _, rfl, Z4, hS, rfl⟩
end Go.Proofs.YtabofnehiclkiaaGreat
