/- Walks of functions: each computes its pure function, if that gives a value. -/
import Derived.Test.YtfodlhkoafhplaaGreatSF8
import Derived.Test.YtfodlhkoafhplaaGreatSTy
import Derived.Test.YtfodlhkoafhplaaGreatSF4
import Derived.Test.YtfodlhkoafhplaaGreatSF5
import Derived.Test.YtfodlhkoafhplaaGreatSF7
import Derived.Test.YtfodlhkoafhplaaGreatSF6
namespace Go.Proofs.YtfodlhkoafhplaaGreat
open Go
set_option linter.unusedSimpArgs false
set_option linter.unusedVariables false
set_option maxRecDepth 100000
set_option maxHeartbeats 1000000
instance : DecidableEq A8 := fun a b => decidable_of_iff _ (eq8_iff (a := a) (b := b))
theorem fld_eq (K : Nat) (x : Int) : g_impl_field K x = some (x % 10007) := by
 unfold g_impl_field
 have h1 : -10007 < x.tmod 10007 ∧ x.tmod 10007 < 10007 := by
  constructor
  have := Int.tmod_lt_of_pos (-x) (show (0 : Int) < 10007 by decide)
  rw [Int.neg_tmod] at this; omega
  exact Int.tmod_lt_of_pos x (by decide)
 rw [IntWalk.i64_in _ (by omega)]
 congr 1
 rw [Int.tmod_eq_emod_of_nonneg (by omega)]
 rw [Int.add_emod_right]
 rcases Int.emod_two_eq x with _ | _ <;> (rw [Int.tmod_eq_emod]; split <;> omega)
def madd (s : MpT) (p : A8) (f : Int) : MpT := if (mget s p + f) % 10007 = 0 then mdel s p else mput s p ((mget s p + f) % 10007)
theorem mget_bound {s : MpT} (h : nfm s = true) (a : A8) : 0 ≤ mget s a ∧ mget s a ≤ 10006 := by
 by_cases hm : a ∈ s.map Prod.fst
 obtain ⟨⟨b, x⟩, hp, rfl⟩ := List.mem_map.1 hm
 rw [mget_iff (srt_nodup (nfm_srt h)) hp]
 have := nfm_val h _ hp
 simp only at this ⊢; omega
 rw [mget_none hm]; omega
theorem add_eq {K : Nat} {s : MpT} {p : A8} {f : Int} (h : nfm s = true ∧ -4611686018427387904 ≤ f ∧ f ≤ 4611686018427387904) : g_impl_sum_add K s p f = some (madd s p f) := by
 unfold g_impl_sum_add madd
 rw [if_pos h]
 have hb := mget_bound h.1 p
 rw [IntWalk.i64_in _ (by omega), fld_eq]
 simp only [Option.bind_some]
 split <;> rfl
theorem mem_mdel {s : MpT} {a : A8} {q : A8 × Int} : q ∈ mdel s a ↔ q ∈ s ∧ q.1 ≠ a := by
 unfold mdel
 rw [List.mem_filter]
 constructor
 rintro ⟨h1, h2⟩
 refine ⟨h1, fun e => ?_⟩
 rw [e, eq8_iff.2 rfl] at h2; simp at h2
 rintro ⟨h1, h2⟩
 refine ⟨h1, ?_⟩
 cases e : eq8 a q.1 with
 | false => rfl
 | true => exact absurd (eq8_iff.1 e).symm h2
theorem mem_mput {s : MpT} {a : A8} {x : Int} {q : A8 × Int} : q ∈ mput s a x ↔ q = (a, x) ∨ q ∈ s ∧ q.1 ≠ a := by
 unfold mput
 rw [(ins_perm _ _).mem_iff, List.mem_cons, mem_mdel]
theorem nfm_madd {s : MpT} (h : nfm s = true) (p : A8) (f : Int) : nfm (madd s p f) = true := by
 unfold madd
 split
 exact nfm_mk (mdel_srt (nfm_srt h) p) (fun q hq => nfm_val h q (mem_mdel.1 hq).1)
 refine nfm_mk (mput_srt (nfm_srt h) p _) (fun q hq => ?_)
 rcases mem_mput.1 hq with rfl | hq
 simp only; omega
 exact nfm_val h q hq.1
theorem mget_of {s : MpT} (hs : Srt s) {a : A8} {x : Int} (h : (a, x) ∈ s) : mget s a = x := mget_iff (srt_nodup hs) h
theorem mget_madd {s : MpT} (h : nfm s = true) (p : A8) (f : Int) (a : A8) : mget (madd s p f) a = if a = p then (mget s p + f) % 10007 else mget s a := by
 have hs := nfm_srt h
 have h' := nfm_srt (nfm_madd h p f)
 unfold madd at h' ⊢
 split
 rename_i h0
 rw [if_pos h0] at h'
 by_cases e : a = p
 subst e
 rw [if_pos rfl, h0, mget_none]
 intro hm
 obtain ⟨q, hq, e⟩ := List.mem_map.1 hm
 exact (mem_mdel.1 hq).2 e
 rw [if_neg e]
 by_cases hm : a ∈ s.map Prod.fst
 obtain ⟨⟨b, x⟩, hq, rfl⟩ := List.mem_map.1 hm
 rw [mget_of hs hq, mget_of h' (mem_mdel.2 ⟨hq, e⟩)]
 rw [mget_none hm, mget_none]
 intro hm'
 obtain ⟨q, hq, rfl⟩ := List.mem_map.1 hm'
 exact hm (List.mem_map.2 ⟨q, (mem_mdel.1 hq).1, rfl⟩)
 rename_i h0
 rw [if_neg h0] at h'
 by_cases e : a = p
 subst e
 rw [if_pos rfl, mget_of h' (mem_mput.2 (.inl rfl))]
 rw [if_neg e]
 by_cases hm : a ∈ s.map Prod.fst
 obtain ⟨⟨b, x⟩, hq, rfl⟩ := List.mem_map.1 hm
 rw [mget_of hs hq, mget_of h' (mem_mput.2 (.inr ⟨hq, e⟩))]
 rw [mget_none hm, mget_none]
 intro hm'
 obtain ⟨q, hq, rfl⟩ := List.mem_map.1 hm'
 rcases mem_mput.1 hq with rfl | hq
 exact e rfl
 exact hm (List.mem_map.2 ⟨q, hq.1, rfl⟩)
/-- two sums in normal form are the same if they have the same factors -/
theorem nf_ext {s t : MpT} (hs : nfm s = true) (ht : nfm t = true) (h : ∀ a, mget s a = mget t a) : s = t := by
 have key : ∀ {s t : MpT}, nfm s = true → nfm t = true → (∀ a, mget s a = mget t a) → ∀ q, q ∈ s → q ∈ t := by
  intro s t hs ht h q hq
  have h1 := mget_of (nfm_srt hs) (a := q.1) (x := q.2) hq
  rw [h] at h1
  by_cases hm : q.1 ∈ t.map Prod.fst
  obtain ⟨⟨b, x⟩, hp, e⟩ := List.mem_map.1 hm
  simp only at e
  subst e
  rw [mget_of (nfm_srt ht) hp] at h1
  subst h1; exact hp
  rw [mget_none hm] at h1
  have := nfm_val hs q hq
  omega
 refine srt_eq (nfm_srt hs) (nfm_srt ht) ?_
 refine (List.perm_ext_iff_of_nodup ?_ ?_).2 (fun q => ⟨key hs ht h q, key ht hs (fun a => (h a).symm) q⟩)
 exact List.Pairwise.of_map Prod.fst (fun a b hab e => hab (by rw [e])) (srt_nodup (nfm_srt hs))
 exact List.Pairwise.of_map Prod.fst (fun a b hab e => hab (by rw [e])) (srt_nodup (nfm_srt ht))
theorem add_comm2 (K : Nat) (s : MpT) (p q : A8) (f g : Int) : (g_impl_sum_add K s p f).bind (fun s => g_impl_sum_add K s q g) = (g_impl_sum_add K s q g).bind (fun s => g_impl_sum_add K s p f) := by
 have hnone : ∀ (s : MpT) (p : A8) (f : Int), ¬ (nfm s = true ∧ -4611686018427387904 ≤ f ∧ f ≤ 4611686018427387904) → g_impl_sum_add K s p f = none := by
  intro s p f h
  unfold g_impl_sum_add; rw [if_neg h]
 by_cases hs : nfm s = true
 case neg => rw [hnone s p f (fun h => hs h.1), hnone s q g (fun h => hs h.1)]; rfl
 by_cases hf : -4611686018427387904 ≤ f ∧ f ≤ 4611686018427387904
 case neg =>
  rw [hnone s p f (fun h => hf h.2)]
  cases h : g_impl_sum_add K s q g with
  | none => rfl
  | some t => simp [hnone t p f (fun h => hf h.2)]
 by_cases hg : -4611686018427387904 ≤ g ∧ g ≤ 4611686018427387904
 case neg =>
  rw [hnone s q g (fun h => hg h.2)]
  cases h : g_impl_sum_add K s p f with
  | none => rfl
  | some t => simp [hnone t q g (fun h => hg h.2)]
 rw [add_eq ⟨hs, hf⟩, add_eq ⟨hs, hg⟩]
 simp only [Option.bind_some]
 rw [add_eq ⟨nfm_madd hs p f, hg⟩, add_eq ⟨nfm_madd hs q g, hf⟩]
 congr 1
 refine nf_ext (nfm_madd (nfm_madd hs p f) q g) (nfm_madd (nfm_madd hs q g) p f) (fun a => ?_)
 rw [mget_madd (nfm_madd hs p f), mget_madd (nfm_madd hs q g), mget_madd hs, mget_madd hs, mget_madd hs, mget_madd hs]
 by_cases e1 : a = p
 by_cases e2 : a = q
 subst e1; subst e2
 simp only [if_true]
 omega
 rw [if_neg e2, if_pos e1, if_pos e1, if_neg (fun e => e2 (e1.trans e))]
 rw [if_neg e1, if_neg e1]
 by_cases e2 : a = q
 rw [if_pos e2, if_pos e2, if_neg (fun e => e1 (e2.trans e))]
 rw [if_neg e2, if_neg e2]
def runAdds (K : Nat) : List (A8 × Int) → MpT → Option MpT
 | [], s => some s
 | o :: os, s => (g_impl_sum_add K s o.1 o.2).bind (runAdds K os)
theorem runAdds_app {K : Nat} : ∀ (xs ys : List (A8 × Int)) (s : MpT), runAdds K (xs ++ ys) s = (runAdds K xs s).bind (runAdds K ys)
 | [], _, _ => rfl
 | x :: xs, ys, s => by
  show (g_impl_sum_add K s x.1 x.2).bind (runAdds K (xs ++ ys)) = ((g_impl_sum_add K s x.1 x.2).bind (runAdds K xs)).bind (runAdds K ys)
  cases g_impl_sum_add K s x.1 x.2 with
  | none => rfl
  | some t => exact runAdds_app xs ys t
theorem runAdds_perm {K : Nat} {xs ys : List (A8 × Int)} (hp : xs.Perm ys) : ∀ s, runAdds K xs s = runAdds K ys s := by
 induction hp with
 | nil => intro s; rfl
 | cons x _ ih =>
  intro s
  show (g_impl_sum_add K s x.1 x.2).bind _ = (g_impl_sum_add K s x.1 x.2).bind _
  congr 1; funext t; exact ih t
 | swap x y l =>
  intro s
  have h := congrArg (fun o => Option.bind o (runAdds K l)) (add_comm2 K s y.1 x.1 y.2 x.2)
  simp only [Option.bind_assoc] at h
  exact h
 | trans _ _ ih1 ih2 => intro s; rw [ih1, ih2]
/-- a step that adds terms, the same ones whatever the sum -/
def AddP (K : Nat) (A : MpT → Option MpT) : Prop := ∃ o : Option (List (A8 × Int)), ∀ s, A s = o.bind fun ops => runAdds K ops s
def AddE (K : Nat) {ρ σ X : Type} (h : X → MpT → σ) (A : MpT → Option (Ex ρ σ)) : Prop := ∃ o : Option (List (A8 × Int) × X), ∀ s, A s = o.bind fun p => (runAdds K p.1 s).map fun t => .go (h p.2 t)
section
variable {K : Nat} {A B : MpT → Option MpT} {ρ σ X : Type} {h : X → MpT → σ}
theorem AddP.comm (hA : AddP K A) (hB : AddP K B) (s : MpT) : (A s).bind B = (B s).bind A := by
 obtain ⟨a, ha⟩ := hA
 obtain ⟨b, hb⟩ := hB
 have e1 : A = fun s => a.bind fun ops => runAdds K ops s := funext ha
 have e2 : B = fun s => b.bind fun ops => runAdds K ops s := funext hb
 subst e1; subst e2
 cases a with
 | none => cases b with
  | none => rfl
  | some y => simp only [Option.bind_none, Option.bind_some]; cases runAdds K y s <;> rfl
 | some x => cases b with
  | none => simp only [Option.bind_none, Option.bind_some]; cases runAdds K x s <;> rfl
  | some y =>
   simp only [Option.bind_some]
   show (runAdds K x s).bind (runAdds K y) = (runAdds K y s).bind (runAdds K x)
   rw [← runAdds_app, ← runAdds_app]
   exact runAdds_perm List.perm_append_comm s
theorem AddP.skip : AddP K (fun s => some s) := ⟨some [], fun _ => rfl⟩
theorem AddP.fail : AddP K (fun _ => none) := ⟨none, fun _ => rfl⟩
theorem AddP.add (p : A8) (f : Int) : AddP K (fun s => g_impl_sum_add K s p f) := ⟨some [(p, f)], fun s => by simp [runAdds]⟩
theorem AddP.const {β : Type} {c : Option β} {B : β → MpT → Option MpT} (hB : ∀ r, AddP K (B r)) : AddP K (fun s => c.bind fun r => B r s) := by
 cases c with
 | none => exact .fail
 | some r => exact hB r
theorem AddP.ite {c : Prop} [Decidable c] (hA : AddP K A) (hB : AddP K B) : AddP K (fun s => if c then A s else B s) := by
 by_cases hc : c
 simp only [if_pos hc]; exact hA
 simp only [if_neg hc]; exact hB
theorem AddE.go (x : X) : AddE K (ρ := ρ) h (fun s => some (.go (h x s))) := ⟨some ([], x), fun _ => rfl⟩
theorem AddE.fail : AddE K (ρ := ρ) h (fun _ => none) := ⟨none, fun _ => rfl⟩
theorem AddE.bind {B : MpT → Option (Ex ρ σ)} (hA : AddP K A) (hB : AddE K h B) : AddE K h (fun s => (A s).bind B) := by
 obtain ⟨a, ha⟩ := hA
 obtain ⟨b, hb⟩ := hB
 have e1 : A = fun s => a.bind fun ops => runAdds K ops s := funext ha
 have e2 : B = fun s => b.bind fun p => (runAdds K p.1 s).map fun t => .go (h p.2 t) := funext hb
 subst e1; subst e2
 cases a with
 | none => exact .fail
 | some x => cases b with
  | none => exact ⟨none, fun s => by simp only [Option.bind_none, Option.bind_some]; cases runAdds K x s <;> rfl⟩
  | some y =>
   refine ⟨some (x ++ y.1, y.2), fun s => ?_⟩
   simp only [Option.bind_some]
   rw [runAdds_app]
   cases runAdds K x s <;> rfl
theorem AddE.const {β : Type} {c : Option β} {B : β → MpT → Option (Ex ρ σ)} (hB : ∀ r, AddE K h (B r)) : AddE K h (fun s => c.bind fun r => B r s) := by
 cases c with
 | none => exact .fail
 | some r => exact hB r
theorem AddE.ite {c : Prop} [Decidable c] {A B : MpT → Option (Ex ρ σ)} (hA : AddE K h A) (hB : AddE K h B) : AddE K h (fun s => if c then A s else B s) := by
 by_cases hc : c
 simp only [if_pos hc]; exact hA
 simp only [if_neg hc]; exact hB
/-- what such a loop gives, handed on -/
theorem AddE.step {A : MpT → Option (Ex ρ σ)} (hA : AddE K h A) (pr : σ → MpT) (hp : ∀ x s, pr (h x s) = s) :
 ∃ F, AddP K F ∧ ∀ {τ : Type} (R : ρ → Option τ) (C : MpT → Option τ) (s : MpT), (A s).bind (Ex.elim R fun y => C (pr y)) = (F s).bind C := by
 obtain ⟨a, ha⟩ := hA
 refine ⟨fun s => a.bind fun p => runAdds K p.1 s, ?_, fun R C s => ?_⟩
 cases a with
 | none => exact .fail
 | some p => exact ⟨some p.1, fun _ => rfl⟩
 rw [ha]
 cases a with
 | none => rfl
 | some p =>
  simp only [Option.bind_some]
  cases runAdds K p.1 s with
  | none => rfl
  | some t =>
   show C (pr (h p.2 t)) = C t
   rw [hp]
theorem perm_loop (L : Nat → MpT → MpT → Option (Ex ρ σ)) (h0 : ∀ zs s, L 0 zs s = none) (hF : ∀ z, ∃ F, AddP K F ∧ ∀ k zs s, L (k + 1) (z :: zs) s = (F s).bind (L k zs)) {zp zq : MpT} (hp : zp.Perm zq) :
 ∀ k s, L k zp s = L k zq s := by
 induction hp with
 | nil => intro k s; rfl
 | cons z _ ih =>
  intro k s
  cases k with
  | zero => rw [h0, h0]
  | succ k =>
   obtain ⟨F, _, hc⟩ := hF z
   rw [hc, hc]
   congr 1; funext t; exact ih k t
 | swap x y l =>
  intro k s
  obtain ⟨Fx, ax, hx⟩ := hF x
  obtain ⟨Fy, ay, hy⟩ := hF y
  cases k with
  | zero => rw [h0, h0]
  | succ k =>
   rw [hx, hy]
   cases k with
   | zero =>
    have e1 : L 0 (x :: l) = fun _ => none := funext fun s => h0 _ s
    have e2 : L 0 (y :: l) = fun _ => none := funext fun s => h0 _ s
    rw [e1, e2]
    cases Fx s <;> cases Fy s <;> rfl
   | succ k =>
    have e1 : L (k + 1) (x :: l) = fun s => (Fx s).bind (L k l) := funext fun s => hx k l s
    have e2 : L (k + 1) (y :: l) = fun s => (Fy s).bind (L k l) := funext fun s => hy k l s
    rw [e1, e2]
    have := congrArg (fun o => Option.bind o (L k l)) (ay.comm ax s)
    simp only [Option.bind_assoc] at this
    exact this
 | trans _ _ ih1 ih2 => intro k s; rw [ih1, ih2]
end
-- impl_power_compare
def okKeys (xs : MpT) : Bool := xs.all fun p => (l8 p.1).all fun x => decide (0 ≤ x ∧ x ≤ 2305843009213693952)
def g_impl_sum_powers (K : Nat) (a0 : MpT) : Option (List A8) := if okKeys a0 = true ∧ a0.length < K ∧ a0.length ≤ 1000000000 then some (a0.map Prod.fst) else none
theorem okKeys_at {xs : MpT} (h : okKeys xs = true) : ∀ a, a ∈ xs.map Prod.fst → ∀ i, 0 ≤ a i ∧ a i ≤ 2305843009213693952 := by
  intro a ha i
  obtain ⟨p, hp, rfl⟩ := List.mem_map.1 ha
  have h1 := List.all_eq_true.1 (List.all_eq_true.1 h p hp)
  have : ∀ x, x ∈ l8 p.1 → 0 ≤ x ∧ x ≤ 2305843009213693952 := fun x hx => by simpa using h1 x hx
  apply this
  unfold l8
  match i with
  | 0 | 1 | 2 | 3 | 4 | 5 | 6 | 7 => simp
theorem keys_eq {xs : MpT} (hs : Srt xs) {ys : List A8} (hp : ys.Perm (xs.map Prod.fst)) (hy : ys.Pairwise fun p q => bef p q = true) : ys = xs.map Prod.fst := by
  have h1 : Srt (ys.map fun a => (a, (0 : Int))) := by
    unfold Srt
    rw [List.pairwise_map]; exact hy
  have h2 : Srt ((xs.map Prod.fst).map fun a => (a, (0 : Int))) := by
    unfold Srt
    rw [List.map_map, List.pairwise_map]; exact hs
  have h3 := congrArg (List.map Prod.fst) (srt_eq h1 h2 (hp.map _))
  simpa [List.map_map, Function.comp_def] using h3
def OwnNB (H : FH) (v : Value) (xs : List A8) (C : OL) : Prop := ∃ b c cs, v = .slice (some ⟨b, 0, none⟩) xs.length c ∧ xs.length ≤ c ∧ c ≤ maxLen ∧ cs.size = c * 8 ∧ C = [(b, .cells cs 188)] ∧
    ∀ i x, xs[i]? = some x → ∀ j, j < 8 → cs[i * 8 + j]? = (enc8 .i64 x)[j]?
theorem OwnNB.of {H : FH} {v : Value} {xs : List A8} {C : OL} (h : OwnSl (tyA8 .i64) 188 H v xs C) (hn : xs ≠ []) : OwnNB H v xs C := by
  rcases h with ⟨_, h, _⟩ | ⟨b, c, cs, h1, h2, h3, h4, h5, h6⟩
  · exact absurd h hn
  · refine ⟨b, c, cs, h1, h2, h3, h4, h5, fun i x hx j hj => ?_⟩
    obtain ⟨ecs, hr, hj'⟩ := h6 i x hx
    have hr : ecs = enc8 .i64 x := hr
    subst hr
    exact hj' j hj
theorem r_lit0b {n : Nat} {f : Fr} {w : World} {H : FH} {L : OL} {ops : Array Oper} {J : Fr → World → Prop} {r : List Oper} {T : TypeId} {d : Nat} {pos : String} {af : Array Edge} (hS : St H w L) (hn : Nat.blt d n = true)
    (K : ∀ u w' C', OwnSl (tyA8 .i64) 188 H u [] C' → OwnNB H u [] C' → St H w' (C' ++ L) → RegL Tryz.prog n ops J r (upd f d u) w') : RegL Tryz.prog n ops J (⟨some d, .buildSlice 120 0 #[], T, pos, af, none⟩ :: r) f w := by
  have hrun := run_buildSlice (P := Tryz.prog) (w := w) sl120 ze188 [] rfl (by simp) (by simp)
  refine reg_val (v := .slice (some ⟨w.heap.size, 0, none⟩) 0 0) (w' := w.alloc (.cells #[] 188)) rfl rfl hn (by have h := hrun; simp only [execOp]; exact run_bind_ok (by simpa using h))
    (K _ _ [(w.heap.size, .cells #[] 188)] (.inr ⟨w.heap.size, 0, #[], rfl, by simp, by simp [maxLen], by simp, rfl, by simp⟩) ⟨w.heap.size, 0, #[], rfl, by simp, by simp [maxLen], by simp, rfl, by simp⟩ (hS.alloc _))
theorem g_impl_sum_powers_ok {K : Nat} {a0 : MpT} {r : List A8} (q0 : g_impl_sum_powers K a0 = some r) {H : FH} {w : World} {L : OL} {s0 : Value} (hs0 : RdMp .i64 H s0 a0) (hS : St H w L) :
    Calls Tryz.prog 177 #[s0] w (Done (fun v G => (R.sl (tyA8 .i64)).p G v r) H L) := by
  have hsub := Sub.refl H
  refine calls_of_run Tryz.func177 rfl Tryz.ntmps177 rfl ?_
  unfold g_impl_sum_powers at q0
  by_cases hg : okKeys a0 = true ∧ a0.length < K ∧ a0.length ≤ 1000000000
  case neg => rw [if_neg hg] at q0; cases q0
  rw [if_pos hg] at q0
  obtain ⟨hok, hK, hlen⟩ := hg
  cases q0
  refine run_seq ?_
  refine run_region ?_
  refine r_assign (Value.slice none 0 0) rfl rfl ?_
  refine reg_nil ?_
  refine run_seq ?_
  refine run_region ?_
  refine r_lit0b hS rfl ?_
  intro u1 w2 C3 ho4 hnb0 hS
  have hS : St H w2 (C3 ++ L) := hS
  refine r_assign (u1) rfl rfl ?_
  refine reg_nil ?_
  refine run_seq ?_
  refine run_seq ?_
  refine run_region ?_
  refine r_move (s0) rfl rfl ?_
  refine r_range mp109 rfl hs0 hS rfl ?_
  intro it6 w7 C8 ho9 hS
  have hS : St H w7 (C8 ++ (C3 ++ L)) := hS
  refine reg_nil ?_
  refine run_block ?_
  refine loop_ind (id := 0) (fun k f w => ∃ (x0_own10 : MpT) (x0_own5 : (List A8)) (H1 : FH) (Cx0_own10 : OL) (Cx0_own5 : OL) (ux0_own5 : Value), ((x0_own5 ++ x0_own10.map Prod.fst).Perm (a0.map Prod.fst) ∧ x0_own10.length < k ∧ (x0_own5 = [] → OwnNB H1 ux0_own5 x0_own5 Cx0_own5)) ∧ Sub H H1 ∧ St H1 w (Cx0_own10 ++ (Cx0_own5 ++ L)) ∧ ItMp .i64 H1 it6 x0_own10 none Cx0_own10 ∧ OwnSl (tyA8 .i64) 188 H1 ux0_own5 x0_own5 Cx0_own5 ∧ ev f (.tmp 3) = ux0_own5 ∧ ev f (.tmp 7) = it6) (fun f w => ∃ (y0_own5 : (List A8)) (H1 : FH) (Cy0_own10 : OL) (Cy0_own5 : OL) (uy0_own5 : Value), (y0_own5.Perm (a0.map Prod.fst) ∧ OwnNB H1 uy0_own5 y0_own5 Cy0_own5) ∧ Sub H H1 ∧ St H1 w (Cy0_own10 ++ (Cy0_own5 ++ L)) ∧ ItMp .i64 H1 it6 ([] : MpT) none Cy0_own10 ∧ OwnSl (tyA8 .i64) 188 H1 uy0_own5 y0_own5 Cy0_own5 ∧ ev f (.tmp 3) = uy0_own5) rfl ?_ ?_ K ?_ ?_
  · rintro f w ⟨x0_own10, x0_own5, H1, Cx0_own10, Cx0_own5, ux0_own5, ⟨_, hk, _⟩, _⟩
    omega
  · rintro k f1_0 w1_0 ih0 hx0 ⟨x0_own10, x0_own5, H1_0, Cx0_own10, Cx0_own5, ux0_own5, ⟨hpm, hk, hnb⟩, hsub, hS, hox0_own10, hox0_own5, ff1_0_3, ff1_0_7⟩
    refine run_seq ?_
    refine run_region ?_
    refine r_next (by exact ff1_0_7) hox0_own10 hS rfl ?_ ?_
    · intro hr11; subst hr11
      refine r_extract (Value.bool false) rfl rfl rfl ?_
      refine reg_nil ?_
      refine run_seq ?_
      refine run_cond_false rfl ?_
      refine run_exit rfl ?_
      have hnb' : OwnNB H1_0 ux0_own5 x0_own5 Cx0_own5 := by
        by_cases h : x0_own5 = []
        · exact hnb h
        · exact OwnNB.of hox0_own5 h
      exact hx0 _ _ ⟨x0_own5, H1_0, Cx0_own10, Cx0_own5, ux0_own5, ⟨by simpa using hpm, hnb'⟩, hsub, hS, hox0_own10, hox0_own5, ff1_0_3⟩
    · intro z12 zr13 w14 C15 hp16 hi17 hS
      have hS : St H1_0 w14 (C15 ++ (Cx0_own5 ++ L)) := hS
      have hlz := hp16.length_eq
      rw [List.length_cons] at hlz
      have hpm2 : ((x0_own5 ++ [z12.1]) ++ zr13.map Prod.fst).Perm (a0.map Prod.fst) := by
        refine List.Perm.trans ?_ hpm
        rw [List.append_assoc]
        refine List.Perm.append_left _ ?_
        exact (hp16.map Prod.fst).symm
      have hll := hpm.length_eq
      rw [List.length_append, List.length_map, List.length_map] at hll
      refine r_extract (Value.bool true) rfl rfl rfl ?_
      refine reg_nil ?_
      refine run_seq ?_
      refine run_cond_true rfl ?_
      refine run_skip ?_
      refine run_block ?_
      refine run_seq ?_
      refine run_region ?_
      refine r_entry (by exact ff1_0_7) hi17 hS rfl ?_
      refine r_extract (Value.agg (enc8 .i64 z12.1).toArray) rfl rfl rfl ?_
      refine r_alloc (z := Value.agg (enc8 .i64 (fun _ => 0)).toArray) (enc8 .i64 (fun _ => 0)).toArray ze188.zero rfl hS rfl ?_
      intro b18 w19 hS
      have hS : St H1_0 w19 ([(b18, .cells (enc8 .i64 (fun _ => 0)).toArray 188)] ++ (C15 ++ (Cx0_own5 ++ L))) := hS
      refine r_storeAll (v := Value.agg (enc8 .i64 z12.1).toArray) (vs := (enc8 .i64 z12.1).toArray) (cs := (enc8 .i64 (fun _ => 0)).toArray) ty188 rfl rfl rfl hS rfl (enc8_one .i64 z12.1) rfl ?_
      intro w21 hS
      have hS : St H1_0 w21 ([(b18, .cells (enc8 .i64 z12.1).toArray 188)] ++ (C15 ++ (Cx0_own5 ++ L))) := hS
      refine reg_nil ?_
      refine run_region ?_
      refine r_move (ux0_own5) (by exact ff1_0_3) rfl ?_
      refine r_loadAll ty188 rfl (hS.own (b18, .cells (enc8 .i64 z12.1).toArray 188) (List.mem_append_left _ (List.mem_singleton.2 rfl))) rfl rfl ?_
      refine r_lit (τ := (tyA8 .i64)) sl120 ze188 rfl [Value.agg (enc8 .i64 z12.1).toArray] [z12.1] rfl rfl (parts1 rfl) (rel1 rfl) (by decide) (by decide) hS rfl ?_
      intro u22 H23 w24 sb25 hS hl26
      have hsub := hsub.trans sb25
      have hox0_own5 := hox0_own5.mono sb25
      have hi17 := hi17.mono sb25
      have hS : St H23 w24 ([(b18, .cells (enc8 .i64 z12.1).toArray 188)] ++ (C15 ++ (Cx0_own5 ++ L))) := hS
      have hg27 : x0_own5.length + ([z12.1]).length ≤ 1099511627776 := by simp; omega
      have hS : St H23 w24 (Cx0_own5 ++ ([(b18, .cells (enc8 .i64 z12.1).toArray 188)] ++ (C15 ++ L))) := hS.perm (perm2 (A1 := [(b18, .cells (enc8 .i64 z12.1).toArray 188)]) (A2 := C15))
      refine r_append (τ := (tyA8 .i64)) ap120 rfl rfl rfl hox0_own5 hS hl26 hg27 rfl ?_
      intro u28 w29 C30 ho31 hS
      have hS : St H23 w29 (C30 ++ ([(b18, .cells (enc8 .i64 z12.1).toArray 188)] ++ (C15 ++ L))) := hS
      have hS : St H23 w29 ([(b18, .cells (enc8 .i64 z12.1).toArray 188)] ++ (C15 ++ (C30 ++ L))) := hS.perm (perm2 (A1 := [(b18, .cells (enc8 .i64 z12.1).toArray 188)]) (A2 := C15)).symm
      refine r_assign (u28) rfl rfl ?_
      refine reg_nil ?_
      refine run_inBlock ?_
      have hS := St.dropA (A := [(b18, .cells (enc8 .i64 z12.1).toArray 188)]) hS
      exact ih0 _ _ ⟨zr13, (x0_own5 ++ [z12.1]), H23, C15, C30, u28, ⟨hpm2, by omega, fun h => absurd h (by simp)⟩, hsub, hS, hi17.drop, ho31, rfl, ff1_0_7⟩
  · exact ⟨a0, ([] : List A8), H, C8, C3, u1, ⟨by simp, hK, fun _ => hnb0⟩, hsub, hS, ho9, ho4, rfl, rfl⟩
  · rintro f2_0 w2_0 ⟨y0_own5, H2_0, Cy0_own10, Cy0_own5, uy0_own5, ⟨hpm, hnb⟩, hsub, hS, hoy0_own10, hoy0_own5, ff2_0_3⟩
    obtain ⟨b, c, cs, rfl, h2, h3, h4, rfl, h6⟩ := hnb
    refine run_seq ?_
    refine run_region ?_
    refine r_move _ (by exact ff2_0_3) rfl ?_
    have hS := hS.dropA
    have hll := hpm.length_eq
    rw [List.length_map] at hll
    have hnd : y0_own5.Nodup := hpm.nodup_iff.2 (srt_nodup hs0.srt)
    refine r_callFn (vs := #[.slice (some ⟨b, 0, none⟩) y0_own5.length c, .func (.func 221) #[] #[]]) Tryz.call253 (args2 rfl rfl) rfl (sort_ok h2 h3 h4 h6 hS (fun a ha => okKeys_at hok a (hpm.mem_iff.1 ha)) (by omega) hnd) ?_
    rintro e3 w3 ⟨rfl, ys, C4, hp5, hsr, hS, ho5⟩
    refine ⟨_, rfl, ?_⟩
    refine reg_nil ?_
    refine run_seq ?_
    refine run_region ?_
    refine r_move _ (by exact ff2_0_3) rfl ?_
    refine r_assign _ rfl rfl ?_
    refine reg_nil ?_
    refine run_ret (vs := [.slice (some ⟨b, 0, none⟩) y0_own5.length c]) Tryz.func177 ⟨rfl, trivial⟩ ?_
    obtain ⟨H32, sb33, hS, hf34⟩ := ho5.freeze hS
    have hsub := hsub.trans sb33
    have he := keys_eq hs0.srt (hp5.trans hpm) hsr
    rw [he] at hf34
    exact ⟨_, _, rfl, hsub, hS, hf34⟩
def g_spec_l01Times_l0 (K : Nat) (a0 : (List Int)) (a1 : MpT) (a2 : MpT) : Nat → Int → MpT → Option (Ex MpT (MpT))
 | 0, _, _ => none
 | k + 1, a4, a6 => (if a4 < (a1.length : Int) then ((g_spec_l01Shift K a0 ((rd a1 a4).1, (rd a1 a4).2) a2).bind fun d0 => ((g_spec_l01Add K a6 d0 1).bind fun c3 => g_spec_l01Times_l0 K a0 a1 a2 k (a4 + 1) c3)) else some (.go a6))
def g_spec_l01Times (K : Nat) (a0 : (List Int)) (a1 : MpT) (a2 : MpT) : Option MpT := ((g_spec_l01Times_l0 K a0 a1 a2 K 0 ([] : List (A8 × Int))).bind (Ex.elim (fun r => some r) (fun s => (fun (a7 : MpT) => some a7) s)))
theorem g_spec_l01Times_ok {K : Nat} {a0 : (List Int)} {a1 : MpT} {a2 : MpT} {r : MpT} (q0 : g_spec_l01Times K a0 a1 a2 = some r) {H : FH} {w : World} {L : OL} {s0 : Value} {s1 : Value} {s2 : Value} (c1 : RdSl (tyInt .i64) H s0 a0) (b2 : RdSl yT H s1 a1) (b3 : RdSl yT H s2 a2) (hS : St H w L) :
 Calls Tryz.prog 171 #[s0, vA ([s1]), vA ([s2])] w (Done (fun v G => (R.agg (tySl yT)).p G v r) H L) := by
 have hsub := Sub.refl H
 refine calls_of_run Tryz.func171 rfl Tryz.ntmps171 rfl ?_
 unfold g_spec_l01Times at q0
 refine run_seq (run_region ?_)
 refine r_box (v := vA ([s1])) ([s1]).toArray rfl rfl hS rfl ?_
 intro b1 w2 hS
 refine r_box (v := vA ([s2])) ([s2]).toArray rfl rfl hS rfl ?_
 intro b4 w5 hS
 refine r_alloc (z := vA ([vN])) ([vN]).toArray ze47.zero rfl hS rfl ?_
 intro b7 w8 hS
 refine reg_nil (run_seq (run_region ?_))
 refine r_build0 (vA ([vN])) bz47 rfl ?_
 refine r_alloc (z := vA ([vN])) ([vN]).toArray ze47.zero rfl hS rfl ?_
 intro b5 m8 hS
 refine r_storeAll (v := vA ([vN])) (vs := ([vN]).toArray) (cs := ([vN]).toArray) ty47 rfl rfl rfl hS rfl (one1 rfl) rfl ?_
 intro m9 hS
 refine reg_nil (run_seq (run_seq (run_region (r_assign (vI 0) rfl rfl (reg_nil (run_block ?_))))))
 have d8 : RdSl yT H (.slice none 0 0) ([] : List (A8 × Int)) := RdSl.nil
 obtain ⟨d9, a8, e0⟩ := bind_some q0
 refine loop_ind (id := 0) (fun k f w => ∃ (a4 : Int) (a6 : MpT) (H1 : FH) (a5 : Value), g_spec_l01Times_l0 K a0 a1 a2 k a4 a6 = some d9 ∧ Sub H H1 ∧ St H1 w ([(b5, cA ([a5]) 47)] ++ ([(b7, cA ([vN]) 47)] ++ ([(b4, cA ([s2]) 47)] ++ ([(b1, cA ([s1]) 47)] ++ L)))) ∧ 0 ≤ a4 ∧ RdSl yT H1 a5 a6 ∧ RdSl (tyInt .i64) H1 s0 a0 ∧ RdSl yT H1 s1 a1 ∧ RdSl yT H1 s2 a2 ∧ ev f (.tmp 0) = s0 ∧ ev f (.tmp 4) = vP b1 ∧ ev f (.tmp 5) = vP b4 ∧ ev f (.tmp 6) = vP b7 ∧ ev f (.tmp 7) = vP b5 ∧ ev f (.tmp 8) = vI a4) (fun f w => ∃ (a7 : MpT) (H1 : FH) (a3 : Value), d9 = .go a7 ∧ Sub H H1 ∧ St H1 w ([(b5, cA ([a3]) 47)] ++ ([(b7, cA ([vN]) 47)] ++ ([(b4, cA ([s2]) 47)] ++ ([(b1, cA ([s1]) 47)] ++ L)))) ∧ RdSl yT H1 a3 a7 ∧ RdSl yT H1 s1 a1 ∧ RdSl yT H1 s2 a2 ∧ ev f (.tmp 6) = vP b7 ∧ ev f (.tmp 7) = vP b5) rfl ?_ ?_ K ?_ ?_
 rintro f w ⟨a4, a6, H1, a5, a8, _⟩
 rw [g_spec_l01Times_l0] at a8; cases a8
 rintro k j7 j8 i4 i5 ⟨a4, a6, g2, a5, a8, hsub, hS, i6, a9, c1, b2, b3, c5, b8, c6, c7, b9, c0⟩
 rw [g_spec_l01Times_l0] at a8
 refine run_seq (run_seq (run_region (r_move (vI a4) (by exact c0) rfl (r_fieldAddr fld47_0 (by exact b8) rfl ?_))))
 refine r_loadOne (s1) ty45 rfl (hS.get (mR (mR (mR mL)))) rfl rfl ?_
 have j9 := b2.bound
 refine r_lenRd sl45 rfl b2 rfl ?_
 refine r_lss (k := .i64) (a := a4) (b := (a1.length : Int)) rfl rfl rfl (reg_nil ?_)
 by_cases d1 : a4 < (a1.length : Int)
 rw [if_pos d1] at a8
 refine run_cond_true (Eq.trans rfl (congrArg Value.bool (decide_eq_true d1))) (run_skip (run_seq (run_block ?_)))
 obtain ⟨f9, g0, k0, n0, _, g3, d2, ⟨_, _, rfl, rfl, rfl⟩, g4⟩ := b2.elem (i := a4) (by omega) (by omega)
 obtain ⟨d0, e9, a8⟩ := bind_some a8
 obtain ⟨c3, f0, a8⟩ := bind_some a8
 refine run_draw 10 (tabL [(17, MP.eq (vA ([a5]))), (18, MP.eq (s0)), (19, MP.eq (vP b1)), (20, MP.eq (s1)), (21, MP.eq (vI a4)), (22, MP.eq (Value.pointer (some ⟨f9, g0, none⟩))), (23, MP.eq (vA (enc8 .u8 ((rd a1 a4).1) ++ [vI ((rd a1 a4).2)]))), (24, MP.eq (vA ([s2]))), (25, MP.rep (R.agg (tySl yT)) (d0)), (26, MP.rep (R.agg (tySl yT)) (c3))]) [] mixed rfl rfl rfl hS (hop_q rfl ?_ (hop_q rfl ?_ (hop_q rfl ?_ (hop_q rfl ?_ (hop_q rfl ?_ (hop_q rfl ?_ (hop_q rfl ?_ (hop_q rfl ?_ (hop_q rfl ?_ (hop_q rfl ?_ hop_nil)))))))))) ?_
 intro n1 n2 n3 n4 k1 hS g5 k2 hcq
 refine r_loadAll ty47 (evT (g5 7 rfl) b9) (hS.get (mR mL)) rfl rfl ?_
 exact qn (.refl _) rfl hS rfl
 intro n5 n6 n7 n8 k3 hS g6 k4 hcq
 refine r_move (s0) (evT (g6 0 rfl) c5) rfl ?_
 exact qn (.refl _) rfl hS rfl
 intro n9 o0 o1 o2 k5 hS g7 k6 hcq
 refine r_fieldAddr fld47_0 (evT (g7 4 rfl) b8) rfl ?_
 exact qn (.refl _) rfl hS rfl
 intro i7 o3 o4 o5 k7 hS k8 g8 hcq
 have i8 : ev i7 (.tmp 19) = vP b1 := g8 2 19 rfl rfl
 refine r_loadOne (s1) ty45 i8 (hS.get (mR (mR (mR (mR mL))))) rfl rfl ?_
 exact qn (.refl _) rfl hS rfl
 intro o6 o7 o8 o9 k9 hS g9 l0 hcq
 refine r_move (vI a4) (evT (g9 8 rfl) c0) rfl ?_
 exact qn (.refl _) rfl hS rfl
 intro g1 p0 p1 p2 l1 hS l2 e1 hcq
 have i9 : ev g1 (.tmp 20) = s1 := e1 3 20 rfl rfl
 have j0 : ev g1 (.tmp 21) = vI a4 := e1 4 21 rfl rfl
 refine r_indexAt sl45 rfl i9 g3 j0 (by omega) (by omega) rfl ?_
 exact qn (.refl _) rfl hS rfl
 intro j1 p3 p4 p5 h0 hS l3 h1 hcq
 have d2 := h0.1 _ _ d2
 have j2 : ev j1 (.tmp 22) = Value.pointer (some ⟨f9, g0, none⟩) := h1 5 22 rfl rfl
 refine r_loadAgg (enc8 .u8 ((rd a1 a4).1) ++ [vI ((rd a1 a4).2)]) ty76 j2 (hS.froz _ _ d2) rfl g4 rfl ?_
 exact qn (.refl _) rfl hS rfl
 intro p6 p7 p8 p9 l4 hS h2 l5 hcq
 refine r_loadAll ty47 (evT (h2 5 rfl) c6) (hS.get (mR (mR (mR mL)))) rfl rfl ?_
 exact qn (.refl _) rfl hS rfl
 intro e2 q1 q2 q3 e3 hS l6 d3 hcq
 have c1 := c1.mono e3
 have b3 := b3.mono e3
 have j3 : ev e2 (.tmp 18) = s0 := d3 1 18 rfl rfl
 have j4 : ev e2 (.tmp 23) = vA (enc8 .u8 ((rd a1 a4).1) ++ [vI ((rd a1 a4).2)]) := d3 6 23 rfl rfl
 have h3 : ev e2 (.tmp 24) = vA ([s2]) := d3 7 24 rfl rfl
 refine r_callFn Tryz.call251 (args3 j3 j4 h3) rfl (g_spec_l01Shift_ok e9 c1 b3 hS) ?_
 rintro l7 l9 ⟨h4, m0, rfl, f1, hS, f2⟩
 refine ⟨h4, rfl, ?_⟩
 exact qn f1 rfl hS f2
 intro e4 m1 h5 m2 f3 hS j6 d5 hcq
 have a9 := a9.mono f3
 have h6 : ev e4 (.tmp 17) = vA ([a5]) := d5 0 17 rfl rfl
 obtain ⟨h7, e5⟩ : ∃ v, ev e4 (.tmp 25) = v := ⟨_, rfl⟩
 have f4 : (R.agg (tySl yT)).p h5 h7 (d0) := e5 ▸ (d5 8 25 rfl rfl)
 obtain ⟨_, rfl, ⟨j5, rfl, d6⟩⟩ := f4
 refine r_callFn Tryz.call143 (args3 h6 e5 rfl) rfl (g_spec_l01Add_ok f0 a9 d6 hS) ?_
 rintro m3 m4 ⟨h8, m5, rfl, f5, hS, f6⟩
 refine ⟨h8, rfl, ?_⟩
 exact qn f5 rfl hS f6
 intro h9 i0 d4 c2 hS b0 f7 hcq
 have hS : St d4 i0 ([(b5, cA ([a5]) 47)] ++ ([(b7, cA ([vN]) 47)] ++ ([(b4, cA ([s2]) 47)] ++ ([(b1, cA ([s1]) 47)] ++ L)))) := hS
 have hsub := hsub.trans c2
 have c1 := c1.mono c2
 have b2 := b2.mono c2
 have b3 := b3.mono c2
 have e6 := evT (b0 7 rfl) b9
 obtain ⟨i1, e7⟩ : ∃ v, ev h9 (.tmp 26) = v := ⟨_, rfl⟩
 have f8 : (R.agg (tySl yT)).p d4 i1 (c3) := e7 ▸ (f7 9 26 (by decide) rfl)
 obtain ⟨_, rfl, ⟨c4, rfl, c8⟩⟩ := f8
 refine r_storeAll (v := vA ([c4])) (vs := ([c4]).toArray) (cs := ([a5]).toArray) ty47 (by exact e6) (by exact e7) rfl hS rfl (one1 c8.isOne) rfl ?_
 intro m6 hS
 refine reg_nil (run_inBlock (run_region (r_move (vI a4) (by exact (evT (b0 8 rfl) c0)) rfl ?_)))
 refine r_add (a4 + 1) rfl rfl (IntWalk.i64_in _ (by omega)) rfl (r_assign (vI (a4 + 1)) rfl rfl (reg_nil ?_))
 exact i4 _ _ ⟨(a4 + 1), c3, d4, c4, a8, hsub, hS, (by omega), c8, c1, b2, b3, (evT (b0 0 rfl) c5), (evT (b0 4 rfl) b8), (evT (b0 5 rfl) c6), (evT (b0 6 rfl) c7), e6, rfl⟩
 rw [if_neg d1] at a8
 refine run_cond_false (Eq.trans rfl (congrArg Value.bool (decide_eq_false d1))) ?_
 refine run_exit rfl ?_
 have hz := Option.some.inj a8
 subst hz
 exact i5 _ _ ⟨a6, g2, a5, rfl, hsub, hS, a9, b2, b3, c7, b9⟩
 exact ⟨0, ([] : List (A8 × Int)), H, (vN), a8, hsub, hS, (by omega), d8, c1, b2, b3, rfl, rfl, rfl, rfl, rfl, rfl⟩
 rintro m7 i2 ⟨a7, e8, a3, rfl, hsub, hS, b6, b2, b3, c9, d7⟩
 dsimp only [Ex.elim] at e0
 refine run_seq (run_region ?_)
 refine r_loadAll ty47 (by exact d7) (hS.get mL) rfl rfl ?_
 have hS : St e8 i2 ([(b7, cA ([vN]) 47)] ++ ([(b5, cA ([a3]) 47)] ++ ([(b4, cA ([s2]) 47)] ++ ([(b1, cA ([s1]) 47)] ++ L)))) := hS.perm (perm1 (A1 := [(b5, cA ([a3]) 47)]))
 refine r_storeAll (v := vA ([a3])) (vs := ([a3]).toArray) (cs := ([vN]).toArray) ty47 (by exact c9) rfl rfl hS rfl (one1 b6.isOne) rfl ?_
 intro i3 hS
 have hS : St e8 i3 ([(b5, cA ([a3]) 47)] ++ ([(b7, cA ([a3]) 47)] ++ ([(b4, cA ([s2]) 47)] ++ ([(b1, cA ([s1]) 47)] ++ L)))) := hS.perm (perm1 (A1 := [(b5, cA ([a3]) 47)])).symm
 refine reg_nil ?_
 refine run_ret (vs := [vA ([a3])]) Tryz.func171 ⟨⟨_, (by exact c9), run_loadAll ty47 (hS.get (mR mL)) rfl⟩, trivial⟩ ?_
 have hz := Option.some.inj e0
 subst hz
 exact ⟨_, _, rfl, hsub, (St.dropA (A := [(b1, cA ([s1]) 47)]) (St.dropA (A := [(b4, cA ([s2]) 47)]) (St.dropA (A := [(b7, cA ([a3]) 47)]) (St.dropA (A := [(b5, cA ([a3]) 47)]) hS)))), ⟨_, rfl, ⟨_, rfl, b6⟩⟩⟩
def g_laws_szFormS_l0 (K : Nat) (a0 : (List MpT)) : Nat → Int → Int → Option (Ex Int (Int))
 | 0, _, _ => none
 | k + 1, a5, a3 => (if a3 < (a0.length : Int) then ((g_laws_szForm K (rd a0 a3) a5).bind fun r6 => (if r6 < 0 then some (.ret (-1)) else g_laws_szFormS_l0 K a0 k r6 (a3 + 1))) else some (.go a5))
def g_laws_szFormS (K : Nat) (a0 : (List MpT)) (a1 : Int) : Option Int := (if (IntKind.i64.wrap (a1 - (a0.length : Int))) < 0 then some (-1) else ((g_laws_szFormS_l0 K a0 K (IntKind.i64.wrap (a1 - (a0.length : Int))) 0).bind (Ex.elim (fun r => some r) (fun s => (fun (a6 : Int) => some a6) s))))
theorem g_laws_szFormS_ok {K : Nat} {a0 : (List MpT)} {a1 : Int} {r : Int} (q0 : g_laws_szFormS K a0 a1 = some r) {H : FH} {w : World} {L : OL} {s0 : Value} (a7 : RdSl (tySl yT) H s0 a0) (hS : St H w L) :
 Calls Tryz.prog 33 #[s0, vI a1] w (Done (fun v G => (R.int .i64).p G v r) H L) := by
 have hsub := Sub.refl H
 refine calls_of_run Tryz.func33 rfl Tryz.ntmps33 rfl ?_
 unfold g_laws_szFormS at q0
 refine run_seq (run_region (r_assign (vI 0) rfl rfl (reg_nil (run_seq (run_region (r_move (vI a1) rfl rfl (r_move (s0) rfl rfl ?_)))))))
 have d4 := a7.bound
 refine r_lenRd sl23 rfl a7 rfl ?_
 refine r_sub (IntKind.i64.wrap (a1 - (a0.length : Int))) rfl rfl rfl rfl (r_assign (vI (IntKind.i64.wrap (a1 - (a0.length : Int)))) rfl rfl (reg_nil (run_seq (run_seq (run_region (r_move (vI (IntKind.i64.wrap (a1 - (a0.length : Int)))) rfl rfl ?_))))))
 refine r_lss (k := .i64) (a := (IntKind.i64.wrap (a1 - (a0.length : Int)))) (b := 0) rfl rfl rfl (reg_nil ?_)
 by_cases b2 : (IntKind.i64.wrap (a1 - (a0.length : Int))) < 0
 rw [if_pos b2] at q0
 refine run_cond_true (Eq.trans rfl (congrArg Value.bool (decide_eq_true b2))) (run_seq (run_region (r_assign (vI (-1)) rfl rfl (reg_nil ?_))))
 refine run_ret (vs := [vI (-1)]) Tryz.func33 ⟨rfl, trivial⟩ ?_
 have hz := Option.some.inj q0
 subst hz
 exact ⟨_, _, rfl, hsub, hS, rfl⟩
 rw [if_neg b2] at q0
 refine run_cond_false (Eq.trans rfl (congrArg Value.bool (decide_eq_false b2))) (run_skip (run_seq (run_seq (run_region (r_assign (vI 0) rfl rfl (reg_nil (run_block ?_)))))))
 obtain ⟨b7, a4, b1⟩ := bind_some q0
 refine loop_ind (id := 0) (fun k f w => ∃ (a5 : Int) (a3 : Int) (H1 : FH), g_laws_szFormS_l0 K a0 k a5 a3 = some b7 ∧ Sub H H1 ∧ St H1 w (L) ∧ 0 ≤ a3 ∧ RdSl (tySl yT) H1 s0 a0 ∧ ev f (.tmp 0) = s0 ∧ ev f (.tmp 1) = vI a5 ∧ ev f (.tmp 5) = vI a3) (fun f w => ∃ (a6 : Int) (H1 : FH), b7 = .go a6 ∧ Sub H H1 ∧ St H1 w (L) ∧ ev f (.tmp 1) = vI a6) rfl ?_ ?_ K ?_ ?_
 rintro f w ⟨a5, a3, H1, a4, _⟩
 rw [g_laws_szFormS_l0] at a4; cases a4
 rintro k c9 d0 c2 c3 ⟨a5, a3, c0, a4, hsub, hS, c4, a7, a8, b0, a9⟩
 rw [g_laws_szFormS_l0] at a4
 refine run_seq (run_seq (run_region (r_move (vI a3) (by exact a9) rfl (r_move (s0) (by exact a8) rfl ?_))))
 have d5 := a7.bound
 refine r_lenRd sl23 rfl a7 rfl ?_
 refine r_lss (k := .i64) (a := a3) (b := (a0.length : Int)) rfl rfl rfl (reg_nil ?_)
 by_cases b3 : a3 < (a0.length : Int)
 rw [if_pos b3] at a4
 refine run_cond_true (Eq.trans rfl (congrArg Value.bool (decide_eq_true b3))) (run_skip (run_seq (run_block (run_seq (run_region (r_move (s0) (by exact a8) rfl (r_move (vI a3) (by exact a9) rfl ?_)))))))
 obtain ⟨b5, o5, d6, E5, _, c5, c6, ⟨c1, rfl, b8⟩, c7⟩ := a7.elem (i := a3) (by omega) (by omega)
 refine r_indexAt sl23 rfl rfl c5 rfl (by omega) (by omega) rfl ?_
 refine r_loadAgg ([c1]) ty42 rfl (hS.froz _ _ c6) rfl c7 rfl (r_move (vI a5) (by exact b0) rfl ?_)
 obtain ⟨r6, c8, a4⟩ := bind_some a4
 refine r_callFn Tryz.call27 (args2 rfl rfl) rfl (g_laws_szForm_ok c8 b8 hS) ?_
 rintro e6 w7 ⟨_, H6, rfl, b9, hS, rfl⟩
 refine ⟨_, rfl, ?_⟩
 have hsub := hsub.trans b9
 have a7 := a7.mono b9
 refine r_assign (vI r6) rfl rfl (reg_nil (run_seq (run_region (r_move (vI r6) rfl rfl ?_))))
 refine r_lss (k := .i64) (a := r6) (b := 0) rfl rfl rfl (reg_nil ?_)
 by_cases b4 : r6 < 0
 rw [if_pos b4] at a4
 refine run_cond_true (Eq.trans rfl (congrArg Value.bool (decide_eq_true b4))) (run_seq (run_region (r_assign (vI (-1)) rfl rfl (reg_nil ?_))))
 refine run_ret (vs := [vI (-1)]) Tryz.func33 ⟨rfl, trivial⟩ ?_
 have hz := Option.some.inj a4
 subst hz
 dsimp only [Ex.elim] at b1
 have hz := Option.some.inj b1
 subst hz
 exact ⟨_, _, rfl, hsub, hS, rfl⟩
 rw [if_neg b4] at a4
 refine run_cond_false (Eq.trans rfl (congrArg Value.bool (decide_eq_false b4))) (run_skip (run_inBlock (run_region (r_move (vI a3) (by exact a9) rfl ?_))))
 refine r_add (a3 + 1) rfl rfl (IntWalk.i64_in _ (by omega)) rfl (r_assign (vI (a3 + 1)) rfl rfl (reg_nil ?_))
 exact c2 _ _ ⟨r6, (a3 + 1), H6, a4, hsub, hS, (by omega), a7, a8, rfl, rfl⟩
 rw [if_neg b3] at a4
 refine run_cond_false (Eq.trans rfl (congrArg Value.bool (decide_eq_false b3))) ?_
 refine run_exit rfl ?_
 have hz := Option.some.inj a4
 subst hz
 exact c3 _ _ ⟨a5, c0, rfl, hsub, hS, b0⟩
 exact ⟨(IntKind.i64.wrap (a1 - (a0.length : Int))), 0, H, a4, hsub, hS, (by omega), a7, rfl, rfl, rfl⟩
 rintro d1 d2 ⟨a6, d3, rfl, hsub, hS, b6⟩
 dsimp only [Ex.elim] at b1
 refine run_seq (run_region (r_move (vI a6) (by exact b6) rfl (r_assign (vI a6) rfl rfl (reg_nil ?_))))
 refine run_ret (vs := [vI a6]) Tryz.func33 ⟨rfl, trivial⟩ ?_
 have hz := Option.some.inj b1
 subst hz
 exact ⟨_, _, rfl, hsub, hS, rfl⟩
def g_laws_toTermS_l0 (K : Nat) (a0 : MpT) : Nat → Int → MpT → Option (Ex MpT (MpT))
 | 0, _, _ => none
 | k + 1, a1, a3 => (if a1 < (a0.length : Int) then ((g_laws_toTerm K ((rd a0 a1).1, (rd a0 a1).2)).bind fun b3 => (if a1 < (a3.length : Int) then g_laws_toTermS_l0 K a0 k (a1 + 1) (a3.set (a1).toNat (b3.1, b3.2)) else none)) else some (.go a3))
def g_laws_toTermS (K : Nat) (a0 : MpT) : Option MpT := (if (a0.length : Int) ≤ 1099511627776 then ((g_laws_toTermS_l0 K a0 K 0 (List.replicate ((a0.length : Int)).toNat (((fun _ => 0), 0) : (A8 × Int)))).bind (Ex.elim (fun r => some r) (fun s => (fun (a8 : MpT) => some a8) s))) else none)
theorem g_laws_toTermS_ok {K : Nat} {a0 : MpT} {r : MpT} (q0 : g_laws_toTermS K a0 = some r) {H : FH} {w : World} {L : OL} {s0 : Value} (b1 : RdSl yT H s0 a0) (hS : St H w L) :
 Calls Tryz.prog 108 #[s0] w (Done (fun v G => (R.sl yT).p (G.new H) v r) H L) := by
 have hsub := Sub.refl H
 refine calls_of_run Tryz.func108 rfl Tryz.ntmps108 rfl ?_
 unfold g_laws_toTermS at q0
 refine run_seq (run_region (r_assign (vN) rfl rfl (reg_nil (run_seq (run_region (r_move (s0) rfl rfl ?_))))))
 have e6 := b1.bound
 refine r_lenRd sl40 rfl b1 rfl ?_
 obtain ⟨e7, q0⟩ := gd q0
 refine r_make (τ := yT) (((fun _ => 0), 0) : (A8 × Int)) ap45 rfl rfl rfl (fun _ => ⟨_, _, rfl, rfl, rfl⟩) (by omega) (by omega) hS rfl ?_
 intro u3 w4 C5 d1 hS
 refine r_assign (u3) rfl rfl (reg_nil (run_seq (run_seq (run_region (r_assign (vI 0) rfl rfl (reg_nil (run_block ?_)))))))
 obtain ⟨c1, a6, c2⟩ := bind_some q0
 refine loop_ind (id := 0) (fun k f w => ∃ (a1 : Int) (a3 : MpT) (H1 : FH) (a9 : OL) (a4 : Value), g_laws_toTermS_l0 K a0 k a1 a3 = some c1 ∧ Sub H H1 ∧ St H1 w (a9 ++ L) ∧ 0 ≤ a1 ∧ OwnSl yT 76 H1 a4 a3 a9 ∧ RdSl yT H1 s0 a0 ∧ ev f (.tmp 0) = s0 ∧ ev f (.tmp 3) = a4 ∧ ev f (.tmp 4) = vI a1) (fun f w => ∃ (a8 : MpT) (H1 : FH) (b2 : OL) (a5 : Value), c1 = .go a8 ∧ Sub H H1 ∧ St H1 w (b2 ++ L) ∧ OwnSl yT 76 H1 a5 a8 b2 ∧ ev f (.tmp 3) = a5) rfl ?_ ?_ K ?_ ?_
 rintro f w ⟨a1, a3, H1, a9, a4, a6, _⟩
 rw [g_laws_toTermS_l0] at a6; cases a6
 rintro k d8 d9 d2 d3 ⟨a1, a3, c4, a9, a4, a6, hsub, hS, d4, a7, b1, b4, b5, b0⟩
 rw [g_laws_toTermS_l0] at a6
 refine run_seq (run_seq (run_region (r_move (vI a1) (by exact b0) rfl (r_move (s0) (by exact b4) rfl ?_))))
 have e8 := b1.bound
 refine r_lenRd sl40 rfl b1 rfl ?_
 refine r_lss (k := .i64) (a := a1) (b := (a0.length : Int)) rfl rfl rfl (reg_nil ?_)
 by_cases b9 : a1 < (a0.length : Int)
 rw [if_pos b9] at a6
 refine run_cond_true (Eq.trans rfl (congrArg Value.bool (decide_eq_true b9))) (run_skip (run_seq (run_block (run_region (r_move (a4) (by exact b5) rfl (r_move (vI a1) (by exact b0) rfl (r_move (s0) (by exact b4) rfl (r_move (vI a1) (by exact b0) rfl ?_))))))))
 obtain ⟨e9, f0, e0, f1, _, c5, c6, ⟨_, _, rfl, rfl, rfl⟩, c7⟩ := b1.elem (i := a1) (by omega) (by omega)
 refine r_indexAt sl40 rfl rfl c5 rfl (by omega) (by omega) rfl ?_
 refine r_loadAgg (enc8 .u8 ((rd a0 a1).1) ++ [vI ((rd a0 a1).2)]) ty236 rfl (hS.froz _ _ c6) rfl c7 rfl ?_
 obtain ⟨b3, c8, a6⟩ := bind_some a6
 refine r_callFn Tryz.call200 (args1 rfl) rfl (g_laws_toTerm_ok c8  hS) ?_
 rintro f2 f3 ⟨f4, d5, rfl, b8, hS, ⟨_, rfl, ⟨_, _, rfl, rfl, rfl⟩⟩⟩
 refine ⟨_, rfl, ?_⟩
 have hsub := hsub.trans b8
 have b1 := b1.mono b8
 have a7 := a7.mono b8
 obtain ⟨e1, a6⟩ := gd a6
 obtain ⟨f5, f6, c3⟩ := a7.some (i := a1) (by omega) (by omega)
 refine r_indexSl0 sl45 (Eq.trans rfl c3) rfl (by omega) (by omega) rfl ?_
 refine r_storeOwn (τ := yT) (v := a4) (u := vA (enc8 .u8 b3.1 ++ [vI b3.2])) (b3.1, b3.2) (i := a1) rfl ty76 c3 a7 hS rfl rfl (by omega) (by omega) ⟨_, _, rfl, rfl, rfl⟩ ?_
 intro f7 d6 c9 hS
 refine reg_nil (run_inBlock (run_region (r_move (vI a1) (by exact b0) rfl ?_)))
 refine r_add (a1 + 1) rfl rfl (IntWalk.i64_in _ (by omega)) rfl (r_assign (vI (a1 + 1)) rfl rfl (reg_nil ?_))
 exact d2 _ _ ⟨(a1 + 1), (a3.set (a1).toNat (b3.1, b3.2)), d5, d6, a4, a6, hsub, hS, (by omega), c9, b1, b4, b5, rfl⟩
 rw [if_neg b9] at a6
 refine run_cond_false (Eq.trans rfl (congrArg Value.bool (decide_eq_false b9))) ?_
 refine run_exit rfl ?_
 have hz := Option.some.inj a6
 subst hz
 exact d3 _ _ ⟨a3, c4, a9, a4, rfl, hsub, hS, a7, b5⟩
 exact ⟨0, (List.replicate ((a0.length : Int)).toNat (((fun _ => 0), 0) : (A8 × Int))), H, C5, u3, a6, hsub, hS, (by omega), d1, b1, rfl, rfl, rfl⟩
 rintro e2 e3 ⟨a8, e4, b2, a5, rfl, hsub, hS, b7, c0⟩
 dsimp only [Ex.elim] at c2
 refine run_seq (run_region (r_move (a5) (by exact c0) rfl (r_assign (a5) rfl rfl (reg_nil ?_))))
 refine run_ret (vs := [a5]) Tryz.func108 ⟨rfl, trivial⟩ ?_
 obtain ⟨d7, d0, hS, b6⟩ := OwnSl.freezeF (τ := yT) (H0 := H) b7 hS hsub
 have e5 := RdSl.old b6
 have b6 : RdF yT H d7 a5 a8 := b6
 have hsub := hsub.trans d0
 have hz := Option.some.inj c2
 subst hz
 exact ⟨_, _, rfl, hsub, hS, b6⟩
def g_spec_l04All_l0 (K : Nat) (a0 : (List Int)) (a1 : (List MpT)) : Nat → Int → Option (Ex ((List MpT) × Int) (Unit))
 | 0, _ => none
 | k + 1, a3 => (if a3 < (a1.length : Int) then ((g_spec_l01Is K a0 (rd a1 a3)).bind fun r4 => (if r4 = true then g_spec_l04All_l0 K a0 a1 k (a3 + 1) else some (.ret (([] : List MpT), 3)))) else some (.go ()))
def g_spec_l04All (K : Nat) (a0 : (List Int)) (a1 : (List MpT)) : Option ((List MpT) × Int) := ((g_spec_l04All_l0 K a0 a1 K 0).bind (Ex.elim (fun r => some r) (fun s => some (a1, 0))))
theorem g_spec_l04All_ok {K : Nat} {a0 : (List Int)} {a1 : (List MpT)} {r : ((List MpT) × Int)} (q0 : g_spec_l04All K a0 a1 = some r) {H : FH} {w : World} {L : OL} {s0 : Value} {s1 : Value} (a8 : RdSl (tyInt .i64) H s0 a0) (a5 : RdSl (tySl yT) H s1 a1) (hS : St H w L) :
 Calls Tryz.prog 173 #[s0, s1] w (Done (fun v G => (R.t2 (R.sl (tySl yT)) (R.int .i64)).p G v r) H L) := by
 have hsub := Sub.refl H
 refine calls_of_run Tryz.func173 rfl Tryz.ntmps173 rfl ?_
 unfold g_spec_l04All at q0
 refine run_seq (run_region (r_assign (vN) rfl rfl (r_assign (vI 0) rfl rfl (reg_nil (run_seq (run_seq (run_region (r_assign (vI 0) rfl rfl (reg_nil (run_block ?_))))))))))
 obtain ⟨b5, a4, b0⟩ := bind_some q0
 refine loop_ind (id := 0) (fun k f w => ∃ (a3 : Int) (H1 : FH), g_spec_l04All_l0 K a0 a1 k a3 = some b5 ∧ Sub H H1 ∧ St H1 w (L) ∧ 0 ≤ a3 ∧ RdSl (tyInt .i64) H1 s0 a0 ∧ RdSl (tySl yT) H1 s1 a1 ∧ ev f (.tmp 0) = s0 ∧ ev f (.tmp 1) = s1 ∧ ev f (.tmp 6) = vI a3) (fun f w => ∃ (H1 : FH), b5 = .go () ∧ Sub H H1 ∧ St H1 w (L) ∧ RdSl (tySl yT) H1 s1 a1 ∧ ev f (.tmp 1) = s1) rfl ?_ ?_ K ?_ ?_
 rintro f w ⟨a3, H1, a4, _⟩
 rw [g_spec_l04All_l0] at a4; cases a4
 rintro k c7 c8 c0 c1 ⟨a3, b8, a4, hsub, hS, c2, a8, a5, a9, a6, a7⟩
 rw [g_spec_l04All_l0] at a4
 refine run_seq (run_seq (run_region (r_move (vI a3) (by exact a7) rfl (r_move (s1) (by exact a6) rfl ?_))))
 have d2 := a5.bound
 refine r_lenRd sl27 rfl a5 rfl ?_
 refine r_lss (k := .i64) (a := a3) (b := (a1.length : Int)) rfl rfl rfl (reg_nil ?_)
 by_cases b1 : a3 < (a1.length : Int)
 rw [if_pos b1] at a4
 refine run_cond_true (Eq.trans rfl (congrArg Value.bool (decide_eq_true b1))) (run_skip (run_seq (run_block (run_seq (run_region (r_move (s0) (by exact a9) rfl (r_move (s1) (by exact a6) rfl (r_move (vI a3) (by exact a7) rfl ?_))))))))
 obtain ⟨b3, o3, d3, E3, _, c3, c4, ⟨b9, rfl, b7⟩, c5⟩ := a5.elem (i := a3) (by omega) (by omega)
 refine r_indexAt sl27 rfl rfl c3 rfl (by omega) (by omega) rfl ?_
 refine r_loadAgg ([b9]) ty47 rfl (hS.froz _ _ c4) rfl c5 rfl ?_
 obtain ⟨r4, c6, a4⟩ := bind_some a4
 refine r_callFn Tryz.call113 (args2 rfl rfl) rfl (g_spec_l01Is_ok c6 a8 b7 hS) ?_
 rintro e4 w5 ⟨_, H4, rfl, b6, hS, rfl⟩
 refine ⟨_, rfl, ?_⟩
 have hsub := hsub.trans b6
 have a8 := a8.mono b6
 have a5 := a5.mono b6
 refine r_not (b := r4) rfl rfl (reg_nil ?_)
 by_cases b2 : r4 = true
 rw [if_pos b2] at a4
 refine run_cond_false (Eq.trans rfl (congrArg (fun b => Value.bool (!b)) b2)) (run_skip (run_inBlock (run_region (r_move (vI a3) (by exact a7) rfl ?_))))
 refine r_add (a3 + 1) rfl rfl (IntWalk.i64_in _ (by omega)) rfl (r_assign (vI (a3 + 1)) rfl rfl (reg_nil ?_))
 exact c0 _ _ ⟨(a3 + 1), H4, a4, hsub, hS, (by omega), a8, a5, a9, a6, rfl⟩
 rw [if_neg b2] at a4
 refine run_cond_true (Eq.trans rfl (congrArg (fun b => Value.bool (!b)) (bfalse b2))) (run_seq (run_region (r_assign (vN) rfl rfl (r_assign (vI 3) rfl rfl (reg_nil ?_)))))
 refine run_ret (vs := [vN, vI 3]) Tryz.func173 ⟨rfl, rfl, trivial⟩ ?_
 have hz := Option.some.inj a4
 subst hz
 dsimp only [Ex.elim] at b0
 have hz := Option.some.inj b0
 subst hz
 exact ⟨_, _, rfl, hsub, hS, ⟨_, _, rfl, RdSl.nil, rfl⟩⟩
 rw [if_neg b1] at a4
 refine run_cond_false (Eq.trans rfl (congrArg Value.bool (decide_eq_false b1))) ?_
 refine run_exit rfl ?_
 have hz := Option.some.inj a4
 subst hz
 exact c1 _ _ ⟨b8, rfl, hsub, hS, a5, a6⟩
 exact ⟨0, H, a4, hsub, hS, (by omega), a8, a5, rfl, rfl, rfl⟩
 rintro c9 d0 ⟨d1, rfl, hsub, hS, a5, b4⟩
 dsimp only [Ex.elim] at b0
 refine run_seq (run_region (r_move (s1) (by exact b4) rfl (r_assign (s1) rfl rfl (r_assign (vI 0) rfl rfl (reg_nil ?_)))))
 refine run_ret (vs := [s1, vI 0]) Tryz.func173 ⟨rfl, rfl, trivial⟩ ?_
 have hz := Option.some.inj b0
 subst hz
 exact ⟨_, _, rfl, hsub, hS, ⟨_, _, rfl, a5, rfl⟩⟩
def g_impl_AreDegrees (K : Nat) (a0 : (List Int)) : Option Bool := (if (a0.length : Int) ≤ 8 then ((g_slices_ContainsFunc_Sint64_int64 K a0 (fun x => g_impl_AreDegrees_c1 K x)).bind fun r3 => some (!r3)) else some false)
theorem g_impl_AreDegrees_ok {K : Nat} {a0 : (List Int)} {r : Bool} (q0 : g_impl_AreDegrees K a0 = some r) {H : FH} {w : World} {L : OL} {s0 : Value} (a3 : RdSl (tyInt .i64) H s0 a0) (hS : St H w L) :
 Calls Tryz.prog 124 #[s0] w (Done (fun v G => R.bool.p G v r) H L) := by
 have hsub := Sub.refl H
 refine calls_of_run Tryz.func124 rfl Tryz.ntmps124 rfl ?_
 unfold g_impl_AreDegrees at q0
 refine run_seq (run_region (r_assign (Value.bool false) rfl rfl (reg_nil (run_seq (run_region (r_move (s0) rfl rfl ?_))))))
 have a8 := a3.bound
 refine r_lenRd sl22 rfl a3 rfl ?_
 refine r_leq (k := .i64) (a := (a0.length : Int)) (b := 8) rfl rfl rfl (r_move (Value.bool (decide ((a0.length : Int) ≤ 8))) rfl rfl ?_)
 by_cases a1 : (a0.length : Int) ≤ 8
 rw [if_pos a1] at q0
 refine reg_guard rfl rfl (Eq.trans rfl (congrArg Value.bool (decide_eq_true a1))) (r_move (s0) rfl rfl ?_)
 obtain ⟨r3, a4, q0⟩ := bind_some q0
 refine reg_guard rfl rfl (Eq.trans rfl (congrArg Value.bool (decide_eq_true a1))) ?_
 refine r_callFn Tryz.call218 (args2 rfl rfl) rfl (g_slices_ContainsFunc_Sint64_int64_ok a4 a3 ⟨219, #[], rfl, Tryz.call219, fun H2 w2 L2 v x b a9 a5 hv a6 => by obtain rfl := hv; exact g_impl_AreDegrees_c1_ok a6   a5⟩ hS) ?_
 rintro e3 w5 ⟨_, H3, rfl, a7, hS, rfl⟩
 refine ⟨_, rfl, ?_⟩
 have hsub := hsub.trans a7
 refine reg_guard rfl rfl (Eq.trans rfl (congrArg Value.bool (decide_eq_true a1))) (r_not (b := r3) rfl rfl ?_)
 refine r_pick (t := true) (Value.bool (!r3)) (Eq.trans rfl (congrArg Value.bool (decide_eq_true a1))) ((if_pos rfl).trans rfl) rfl (r_assign (Value.bool (!r3)) rfl rfl (reg_nil ?_))
 refine run_ret (vs := [Value.bool (!r3)]) Tryz.func124 ⟨rfl, trivial⟩ ?_
 have hz := Option.some.inj q0
 subst hz
 exact ⟨_, _, rfl, hsub, hS, rfl⟩
 rw [if_neg a1] at q0
 refine reg_unguard rfl rfl (Eq.trans rfl (congrArg Value.bool (decide_eq_false a1))) rfl rfl rfl (reg_unguard rfl rfl (Eq.trans rfl (congrArg Value.bool (decide_eq_false a1))) rfl rfl rfl (reg_unguard rfl rfl (Eq.trans rfl (congrArg Value.bool (decide_eq_false a1))) rfl rfl rfl ?_))
 refine r_pick (t := false) (Value.bool false) (Eq.trans rfl (congrArg Value.bool (decide_eq_false a1))) ((if_neg Bool.false_ne_true).trans rfl) rfl (r_assign (Value.bool false) rfl rfl (reg_nil ?_))
 refine run_ret (vs := [Value.bool false]) Tryz.func124 ⟨rfl, trivial⟩ ?_
 have hz := Option.some.inj q0
 subst hz
 exact ⟨_, _, rfl, hsub, hS, rfl⟩
end Go.Proofs.YtfodlhkoafhplaaGreat
