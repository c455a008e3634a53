/- Walks of functions: each computes its pure function, if that gives a value. -/
import Derived.Shelf.SlSortCmp.Insertion1
import Derived.Test.YtfodlhkoafhplaaGreatUF7
import Derived.Test.YtfodlhkoafhplaaGreatUS3
import Derived.Test.YtfodlhkoafhplaaGreatUF2
import Derived.Test.YtfodlhkoafhplaaGreatUTy
import Derived.Test.YtfodlhkoafhplaaGreatUF6
import Derived.Test.YtfodlhkoafhplaaGreatUF5
namespace Go.Proofs.YtfodlhkoafhplaaGreat
open Go Go.Sort Go.RowKit Go.Shelf Go.Lib
set_option linter.unusedSimpArgs false
set_option linter.unusedVariables false
set_option maxRecDepth 100000
set_option maxHeartbeats 8000000
def Wj3 : Go.Shelf.Ren := ⟨fun | 20 => 277 | n => n, fun | 22 => 22 | 24 => 2 | 25 => 192 | n => n, fun | n => n⟩
theorem Wj1 : Go.Proofs.SlLaysF.n20 Tryz.prog Wj3 := {
 mixed := by kernel_rfl
 f20 := ⟨Tryz.f277.name, by decide, Tryz.func277.trans (congrArg some (by kernel_rfl))⟩
 t0 := Tryz.underlying0
 a0 := Tryz.isAgg0
 z0 := Tryz.sizeOf0
 v0 := Tryz.zeroValue0
 t3 := Tryz.underlying3
 a3 := Tryz.isAgg3
 z3 := Tryz.sizeOf3
 v3 := Tryz.zeroValue3
 t4 := Tryz.underlying4
 a4 := Tryz.isAgg4
 z4 := Tryz.sizeOf4
 v4 := Tryz.zeroValue4
 t22 := Tryz.underlying22
 a22 := Tryz.isAgg22
 z22 := Tryz.sizeOf22
 v22 := Tryz.zeroValue22
 a24 := Tryz.isAgg2
 z24 := Tryz.sizeOf2
 t25 := Tryz.underlying192
 a25 := Tryz.isAgg192
 z25 := Tryz.sizeOf192
 v25 := Tryz.zeroValue192 }
/-! insertion by degrees is insertion by degrees and places -/
section
variable {α : Type} [Inhabited α] {v : α → Nat} {lt lt' : α → α → Bool}
theorem Xa1 (hll : ∀ x y, v y < v x → lt x y = lt' x y) : ∀ (j : Nat) (d : Array α), j < d.size → (∀ p, p < j → v d[p]! < v d[j]!) → insInner lt 0 j d = insInner lt' 0 j d
 | 0, d, _, _ => rfl
 | j + 1, d, hj, h => by
  rw [insInner, insInner, hll _ _ (h j (by omega))]
  by_cases hc : (decide (j + 1 > 0) && lt' d[j + 1]! d[j]!) = true
  rw [if_pos hc, if_pos hc]
  refine Xa1 hll j _ (by rw [swp_size]; omega) (fun p hp => ?_)
  rw [swp_other _ _ _ _ (by omega) (by omega), swp_right _ _ _ (by omega)]
  exact h p (by omega)
  rw [if_neg hc, if_neg hc]
theorem Yq5 : ∀ (j : Nat) (d : Array α), j < d.size → (insInner lt 0 j d).size = d.size ∧ (∀ q, j < q → (insInner lt 0 j d)[q]! = d[q]!) ∧ ∀ p, p ≤ j → ∃ q, q ≤ j ∧ (insInner lt 0 j d)[p]! = d[q]!
 | 0, d, _ => ⟨rfl, fun _ _ => rfl, fun p hp => ⟨p, hp, rfl⟩⟩
 | j + 1, d, hj => by
  rw [insInner]
  by_cases hc : (decide (j + 1 > 0) && lt d[j + 1]! d[j]!) = true
  rw [if_pos hc]
  obtain ⟨h1, h2, h3⟩ := Yq5 j (swp d (j + 1) j) (by rw [swp_size]; omega)
  refine ⟨by rw [h1, swp_size], fun q hq => ?_, fun p hp => ?_⟩
  rw [h2 q (by omega), swp_other _ _ _ _ (by omega) (by omega)]
  by_cases e : p = j + 1
  subst e
  rw [h2 _ (by omega), swp_left _ _ _ (by omega) (by omega)]
  exact ⟨j, by omega, rfl⟩
  obtain ⟨q, hq, hp'⟩ := h3 p (by omega)
  rw [hp']
  by_cases eq : q = j
  subst eq; rw [swp_right _ _ _ (by omega)]; exact ⟨q + 1, Nat.le_refl _, rfl⟩
  rw [swp_other _ _ _ _ (by omega) eq]; exact ⟨q, by omega, rfl⟩
  rw [if_neg hc]; exact ⟨rfl, fun _ _ => rfl, fun p hp => ⟨p, hp, rfl⟩⟩
theorem Xc1 (hll : ∀ x y, v y < v x → lt x y = lt' x y) {n : Nat} : ∀ (m i : Nat) (d : Array α), n ≤ i + m → d.size = n → (∀ q, i ≤ q → q < n → v d[q]! = q) → (∀ p, p < i → p < n → v d[p]! < i) → insOuter lt 0 n i d = insOuter lt' 0 n i d
 | 0, i, d, hm, _, _, _ => by rw [insOuter_stop _ _ _ _ _ (by omega), insOuter_stop _ _ _ _ _ (by omega)]
 | m + 1, i, d, hm, hs, h1, h2 => by
  by_cases hi : i < n
  have hv := h1 i (Nat.le_refl _) hi
  have he := Xa1 (v := v) hll i d (by omega) (fun p hp => by rw [hv]; exact h2 p hp (by omega))
  obtain ⟨k1, k2, k3⟩ := Yq5 (lt := lt') i d (by omega)
  rw [insOuter_go _ _ _ _ _ hi, insOuter_go _ _ _ _ _ hi, he]
  refine Xc1 hll m (i + 1) _ (by omega) (by omega) (fun q hq hqn => ?_) (fun p hp hpn => ?_)
  rw [k2 q (by omega)]; exact h1 q (by omega) hqn
  obtain ⟨q, hq, e⟩ := k3 p (by omega)
  rw [e]
  by_cases e2 : q = i
  subst e2; rw [hv]; omega
  have := h2 q (by omega) (by omega); omega
  rw [insOuter_stop _ _ _ _ _ hi, insOuter_stop _ _ _ _ _ hi]
theorem Yx6 {β : Type} {r : β → β → Prop} (asym : ∀ x y, r x y → ¬ r y x) : ∀ l1 l2 : List β, l1.Perm l2 → l1.Pairwise r → l2.Pairwise r → l1 = l2
 | [], l2, h, _, _ => (List.nil_perm.1 h).symm
 | x :: l1, [], h, _, _ => by have := h.length_eq; simp at this
 | x :: l1, y :: l2, h, h1, h2 => by
  have p1 := List.pairwise_cons.1 h1
  have p2 := List.pairwise_cons.1 h2
  have hx := (h.mem_iff (a := x)).1 (List.mem_cons_self ..)
  have hy := (h.mem_iff (a := y)).2 (List.mem_cons_self ..)
  have e : x = y := by
   rcases List.mem_cons.1 hx with e | hx
   exact e
   rcases List.mem_cons.1 hy with e | hy
   exact e.symm
   exact absurd (p2.1 x hx) (asym _ _ (p1.1 y hy))
  subst e
  rw [Yx6 asym l1 l2 h.cons_inv p1.2 p2.2]
end
/-- the places of an algebra's generators, by degrees -/
def stN (ds : List Int) : List Nat := (List.range 12).flatMap fun (d : Nat) => (List.range ds.length).filter fun (i : Nat) => decide (rd ds (i : Int) = (d : Int) + 1)
def stb (ds : List Int) : List Int := (stN ds).map fun (i : Nat) => (i : Int)
def rP (ds : List Int) (x y : Nat) : Prop := rd ds (x : Int) < rd ds (y : Int) ∨ (rd ds (x : Int) = rd ds (y : Int) ∧ x < y)
theorem Xj3 (ds : List Int) (x y : Nat) (h : rP ds x y) : ¬ rP ds y x := by
 unfold rP at *; omega
theorem Xa9 (ds : List Int) : (stN ds).Pairwise (rP ds) := by
 unfold stN
 rw [List.pairwise_flatMap]
 refine ⟨fun d _ => ?_, ?_⟩
 rw [List.pairwise_filter]
 refine List.Pairwise.imp (fun {x y} hxy hx hy => ?_) List.pairwise_lt_range
 have hx := of_decide_eq_true hx
 have hy := of_decide_eq_true hy
 exact .inr ⟨by omega, hxy⟩
 refine List.Pairwise.imp (fun {d e} hde x hx y hy => ?_) List.pairwise_lt_range
 have hx := of_decide_eq_true (List.mem_filter.1 hx).2
 have hy := of_decide_eq_true (List.mem_filter.1 hy).2
 exact .inl (by omega)
theorem Xz4 {ds : List Int} (hd : ∀ d, d ∈ ds → 1 ≤ d ∧ d ≤ 12) (i : Nat) : i ∈ stN ds ↔ i ∈ List.range ds.length := by
 unfold stN
 rw [List.mem_flatMap]
 constructor
 rintro ⟨d, _, h⟩; exact (List.mem_filter.1 h).1
 intro h
 have hi := List.mem_range.1 h
 have hm : rd ds (i : Int) ∈ ds := by
  unfold rd; rw [Int.toNat_natCast, List.getD_eq_getElem?_getD, List.getElem?_eq_getElem hi]; exact List.getElem_mem _
 have := hd _ hm
 exact ⟨(rd ds (i : Int) - 1).toNat, List.mem_range.2 (by omega), List.mem_filter.2 ⟨h, decide_eq_true (by omega)⟩⟩
theorem Wi3 {ds : List Int} {x y : Nat} (h : rP ds x y) : x ≠ y := by
 rintro rfl; exact Xj3 ds x x h h
theorem Zu2 {ds : List Int} (hd : ∀ d, d ∈ ds → 1 ≤ d ∧ d ≤ 12) : (List.range ds.length).Perm (stN ds) :=
 (List.perm_ext_iff_of_nodup List.nodup_range (List.nodup_iff_pairwise_ne.2 ((Xa9 ds).imp Wi3))).2 fun i => (Xz4 hd i).symm
abbrev Ix (ds : List Int) := {i : Nat // i < ds.length}
def ltX (ds : List Int) (x y : Ix ds) : Bool := decide (rd ds (x.1 : Int) < rd ds (y.1 : Int))
def ltP (ds : List Int) (x y : Ix ds) : Bool := decide (rd ds (x.1 : Int) < rd ds (y.1 : Int)) || (decide (rd ds (x.1 : Int) = rd ds (y.1 : Int)) && decide (x.1 < y.1))
theorem Yt2 {ds : List Int} {x y : Ix ds} : ltP ds x y = true ↔ rP ds x.1 y.1 := by
 unfold ltP rP; simp
theorem Wj8 (ds : List Int) : SWO (ltP ds) := by
 have hf : ∀ x y, ltP ds x y = false ↔ ¬ rP ds x.1 y.1 := fun x y => by
  rw [← Yt2]; simp
 refine ⟨fun x => ?_, fun x y z h1 h2 => ?_, fun x y z h1 h2 => ?_⟩
 rw [hf]; unfold rP; omega
 rw [Yt2] at *; unfold rP at *; omega
 rw [hf] at *; unfold rP at *; omega
theorem Xy9 (ds : List Int) : ∃ ks : List (Ix ds), ks.map Subtype.val = List.range ds.length := by
 refine ⟨(List.range ds.length).pmap (fun i h => ⟨i, h⟩) (fun i hi => List.mem_range.1 hi), ?_⟩
 rw [List.map_pmap]
 exact List.pmap_eq_self.2 (fun _ _ => rfl)
theorem Xm6 {ds : List Int} [Inhabited (Ix ds)] (hd : ∀ d, d ∈ ds → 1 ≤ d ∧ d ≤ 12) {ks : List (Ix ds)} (hk : ks.map Subtype.val = List.range ds.length) :
 (insertionSort (ltX ds) ks.toArray 0 ks.length).size = ks.length ∧ (insertionSort (ltX ds) ks.toArray 0 ks.length).toList.map Subtype.val = stN ds := by
 have hlen : ks.length = ds.length := by have := congrArg List.length hk; simpa using this
 have hg : ∀ q, q < ks.length → (ks.toArray[q]!).1 = q := fun q hq => by
  have := congrArg (fun l => l[q]?) hk
  simp only [List.getElem?_map, List.getElem?_eq_getElem hq, Option.map_some, List.getElem?_range (by omega : q < ds.length)] at this
  rw [getElem!_pos ks.toArray q (by simpa using hq)]
  simpa using this
 have he : insertionSort (ltX ds) ks.toArray 0 ks.length = insertionSort (ltP ds) ks.toArray 0 ks.length := by
  refine Xc1 (v := fun x : Ix ds => x.1) (fun x y h => ?_) ks.length 1 ks.toArray (by omega) (by simp) (fun q _ hq => hg q hq) (fun p hp hpn => by rw [hg p hpn]; exact hp)
  unfold ltX ltP
  rw [decide_eq_false (show ¬ x.1 < y.1 by omega), Bool.and_false, Bool.or_false]
 obtain ⟨⟨hs, _, hp⟩, hso⟩ := insertionSort_holds (lt := ltP ds) (Wj8 ds) ks.toArray 0 ks.length (Nat.zero_le _) (by simp)
 rw [he]
 have hs : (insertionSort (ltP ds) ks.toArray 0 ks.length).size = ks.length := by simpa using hs
 refine ⟨hs, ?_⟩
 rw [Array.extract_eq_self_of_le (by omega), Array.extract_eq_self_of_le (by simp)] at hp
 have hp : (insertionSort (ltP ds) ks.toArray 0 ks.length).toList.Perm ks := by simpa using hp
 have hp2 := (hp.map Subtype.val).trans (hk ▸ Zu2 hd)
 refine Yx6 (Xj3 ds) _ _ hp2 ?_ (Xa9 ds)
 rw [List.pairwise_map, List.pairwise_iff_getElem]
 intro i j hi hj hij
 have hi' : i < (insertionSort (ltP ds) ks.toArray 0 ks.length).size := by simpa using hi
 have hj' : j < (insertionSort (ltP ds) ks.toArray 0 ks.length).size := by simpa using hj
 have h1 := hso i j (Nat.zero_le _) hij (by omega)
 rw [getElem!_pos _ j hj', getElem!_pos _ i hi'] at h1
 simp only [Array.getElem_toList]
 have hnd : ((insertionSort (ltP ds) ks.toArray 0 ks.length).toList.map Subtype.val).Nodup := (hp.map Subtype.val).nodup_iff.2 (by rw [hk]; exact List.nodup_range)
 have hne := List.nodup_iff_pairwise_ne.1 hnd
 rw [List.pairwise_map, List.pairwise_iff_getElem] at hne
 have hne := hne i j hi hj hij
 simp only [Array.getElem_toList] at hne
 have h2 : ¬ rP ds _ _ := fun h => by rw [Yt2.2 h] at h1; cases h1
 unfold rP at h2 ⊢
 omega
/-! the sort -/
def cfX (ds : List Int) (x y : Ix ds) : Int := rd ds (x.1 : Int) - rd ds (y.1 : Int)
theorem Wg1 (ds : List Int) : ltOf (cfX ds) = ltX ds := by
 funext x y
 unfold ltOf cfX ltX
 rw [decide_eq_decide]; omega
theorem Xy8 {a : F4} (hd : ∀ d, d ∈ a.1 → 1 ≤ d ∧ d ≤ 12) (x y : Ix a.1) : Zc4 9 (x.1 : Int) (y.1 : Int) a = some (cfX a.1 x y) := by
 have hm : ∀ z : Ix a.1, rd a.1 (z.1 : Int) ∈ a.1 := fun z => by
  unfold rd; rw [Int.toNat_natCast, List.getD_eq_getElem?_getD, List.getElem?_eq_getElem z.2]; exact List.getElem_mem _
 have h1 := hd _ (hm x)
 have h2 := hd _ (hm y)
 have hx := x.2
 have hy := y.2
 unfold Zc4 cfX
 rw [if_pos (by omega), if_pos (by omega), if_pos (by omega), if_pos (by omega), IntWalk.i64_in _ (by omega)]
abbrev Yu0 : Ty F4 := Zo8 (W0 (Y8 .i64)) (W0 (W0 yT))
theorem Xt6 {a : F4} [Inhabited (Ix a.1)] {H : FH} {w : World} {L : OL} {b n : Nat} {cs : Array Value} {p : Value} (hd : ∀ d, d ∈ a.1 → 1 ≤ d ∧ d ≤ 12) (hp : Zh2 Yu0 H p a) (hS : St H w ([(b, .cells cs 2)] ++ L)) :
 CmpLays1 Tryz.prog 155 #[p] (fun x : Ix a.1 => Value.int .i64 (x.1 : Int)) (cfX a.1) b 0 n w := by
 intro m os dk hs x y
 have hW : St H (sortWorld (fun x : Ix a.1 => Value.int .i64 (x.1 : Int)) w b 0 m dk os) ([(b, .cells (putCells (fun x : Ix a.1 => Value.int .i64 (x.1 : Int)) 0 dk cs) 2)] ++ L) := ((hS.ahead m).mapBlock _).grown os
 generalize sortWorld (fun x : Ix a.1 => Value.int .i64 (x.1 : Int)) w b 0 m dk os = W at hW ⊢
 have hs1 : Sub ⟨H.fr, fun _ => none, (FH.all W).base⟩ (FH.all W) := ⟨fun b' o hb => hW.froz b' o hb, fun _ _ h => (by cases h), rfl⟩
 have hp' : Zh2 Yu0 (FH.all W) p a := Zh2.mono hs1 (show Zh2 Yu0 ⟨H.fr, fun _ => none, (FH.all W).base⟩ p a from hp)
 have h := Zw0 (Xy8 hd x y) hp' (St.all W)
 refine h.mono ?_
 rintro e w' ⟨v, H', rfl, hs, hS, hv⟩
 exact ⟨congrArg Ending.returned hv, Xf4 hs hS⟩
def idL (n : Nat) : List Int := (List.range n).map fun (i : Nat) => (i : Int)
set_option maxRecDepth 100000 in
theorem Wg7 {H : FH} {w : World} {L C : OL} {v p : Value} {a : F4} (hd : ∀ d, d ∈ a.1 → 1 ≤ d ∧ d ≤ 12) (hl : a.1.length ≤ 8) (ho : V1 (Y8 .i64) 2 H v (idL a.1.length) C) (hp : Zh2 Yu0 H p a) (hS : St H w (C ++ L)) :
 Calls Tryz.prog 277 #[v, vI 0, vI (a.1.length : Int), .func (.func 155) #[] #[p]] w (fun e w' => e = .returned (.tuple #[]) ∧ ∃ C', St H w' (C' ++ L) ∧ V1 (Y8 .i64) 2 H v (stb a.1) C') := by
 have hil : (idL a.1.length).length = a.1.length := by simp [idL]
 rcases ho with ⟨rfl, hx, rfl⟩ | ⟨b, c, cs, rfl, h1, h2, h3, rfl, h5⟩
 have h0 : a.1.length = 0 := by rw [← hil, hx]; rfl
 have hst : stb a.1 = [] := by
  have := (Zu2 hd).length_eq
  rw [List.length_range, h0] at this
  unfold stb; rw [List.eq_nil_of_length_eq_zero this.symm]; rfl
 rw [h0, hst]
 refine X2 Tryz.func277 rfl Tryz.ntmps277 rfl ?_
 refine Z3 (Z1 ?_)
 refine Z4 (vI 0) rfl rfl ?_
 refine W8 (0 + 1) rfl rfl (IntWalk.i64_in _ (by omega)) rfl ?_
 refine Z5 (vI (0 + 1)) rfl rfl (Z0 ?_)
 refine Y7 (Ya1 ?_)
 refine Z3 (Z3 (Z1 ?_))
 refine Z4 (vI (0 + 1)) rfl rfl (Z4 (vI ((0 : Nat) : Int)) rfl rfl ?_)
 refine U2 (k := .i64) (a := 0 + 1) (b := ((0 : Nat) : Int)) rfl rfl rfl (Z0 ?_)
 refine Z9 (bF (show ¬ ((0 : Int) + 1 < ((0 : Nat) : Int)) by decide) rfl) ?_
 refine W4 rfl ?_
 refine Zu6 (vs := []) Tryz.func277 trivial ⟨rfl, [], hS, V1.nil _ _ _⟩
 rw [hil] at h1 ⊢
 obtain ⟨ks, hk⟩ := Xy9 a.1
 have hkl : ks.length = a.1.length := by have := congrArg List.length hk; simpa using this
 by_cases h0 : a.1.length = 0
 have hst : stb a.1 = [] := by
  have := (Zu2 hd).length_eq
  rw [List.length_range, h0] at this
  unfold stb; rw [List.eq_nil_of_length_eq_zero this.symm]; rfl
 rw [h0, hst]
 refine X2 Tryz.func277 rfl Tryz.ntmps277 rfl ?_
 refine Z3 (Z1 ?_)
 refine Z4 (vI 0) rfl rfl ?_
 refine W8 (0 + 1) rfl rfl (IntWalk.i64_in _ (by omega)) rfl ?_
 refine Z5 (vI (0 + 1)) rfl rfl (Z0 ?_)
 refine Y7 (Ya1 ?_)
 refine Z3 (Z3 (Z1 ?_))
 refine Z4 (vI (0 + 1)) rfl rfl (Z4 (vI ((0 : Nat) : Int)) rfl rfl ?_)
 refine U2 (k := .i64) (a := 0 + 1) (b := ((0 : Nat) : Int)) rfl rfl rfl (Z0 ?_)
 refine Z9 (bF (show ¬ ((0 : Int) + 1 < ((0 : Nat) : Int)) by decide) rfl) ?_
 refine W4 rfl ?_
 exact Zu6 (vs := []) Tryz.func277 trivial ⟨rfl, [(b, .cells cs 2)], hS, .inr ⟨b, c, cs, rfl, Nat.zero_le _, h2, h3, rfl, fun i x hx => by simp at hx⟩⟩
 have : Inhabited (Ix a.1) := ⟨⟨0, by omega⟩⟩
 have hw : w.heap[b]? = some (.cells cs 2) := St.hd hS
 have hkget : ∀ j, (hj : j < ks.length) → (ks[j]).1 = j := fun j hj => by
  have := congrArg (fun l => l[j]?) hk
  simp only [List.getElem?_map, List.getElem?_eq_getElem hj, Option.map_some, List.getElem?_range (by omega : j < a.1.length)] at this
  simpa using this
 have hH : Holds (fun x : Ix a.1 => Value.int .i64 (x.1 : Int)) w b 0 ks.toArray := by
  intro j hj
  have hj' : j < ks.length := by simpa using hj
  refine ⟨?_, by simp [World.frozen?, hw]⟩
  obtain ⟨ecs, hr, he⟩ := h5 j (j : Int) (by unfold idL; rw [List.getElem?_map, List.getElem?_range (by omega)]; rfl)
  have hr : ecs = [.int .i64 (j : Int)] := hr
  subst hr
  have := he 0 (by decide)
  rw [World.cell?, hw]
  simp only [Nat.zero_add]
  have e1 : j * (Y8 .i64).size + 0 = j := Nat.mul_one j
  rw [e1] at this
  rw [this, getElem!_pos ks.toArray j hj]
  simp [hkget j hj']
 have hcall := Any.insertionSortCmpFunc_s Wj1 (fun x : Ix a.1 => Value.int .i64 (x.1 : Int)) (cfX a.1) 155 #[p] b 0 c 0 ks.length ks.toArray ks.toArray w w Tryz.call155 (Xt6 hd hp hS) ⟨fun _ => rfl, hH, Za2 hw⟩ rfl (SW.start hH) (Nat.zero_le _) (by simp) (by simp; omega)
 obtain ⟨i1, i2⟩ := Xm6 hd hk
 rw [Wg1] at hcall
 generalize hD : insertionSort (ltX a.1) ks.toArray 0 ks.length = D at hcall i1 i2
 change Calls Tryz.prog 277 _ _ _ at hcall
 simp only [List.size_toArray, hkl] at hcall
 refine hcall.mono ?_
 rintro e w' ⟨rfl, m, os, rfl⟩
 have hDl : D.size = a.1.length := by omega
 have hsl : (stb a.1).length = a.1.length := by unfold stb; rw [List.length_map, ← i2]; simp; omega
 refine ⟨rfl, [(b, .cells (putCells (fun x : Ix a.1 => Value.int .i64 (x.1 : Int)) 0 D cs) 2)], ((hS.ahead m).mapBlock _).grown os, .inr ⟨b, c, _, by rw [hsl], by rw [hsl]; exact h1, h2, ?_, rfl, fun i x hx => ?_⟩⟩
 simp only [putCells, Array.size_mapIdx]
 exact h3
 have hi : i < a.1.length := by
  have := (List.getElem?_eq_some_iff.1 hx).1
  omega
 refine ⟨_, rfl, fun j hj => ?_⟩
 have hj : j < 1 := hj
 have : j = 0 := by omega
 subst this
 have hxv : x = ((D[i]'(by omega)).1 : Int) := by
  unfold stb at hx
  rw [← i2, List.getElem?_map, List.getElem?_map] at hx
  simp [show i < D.size by omega] at hx
  exact hx.symm
 have e1 : i * (Y8 .i64).size + 0 = i := Nat.mul_one i
 rw [e1]
 have hic : i < cs.size := by rw [h3]; show i < c * 1; omega
 simp only [putCells]
 rw [Array.getElem?_mapIdx, Array.getElem?_eq_getElem hic]
 simp [hxv, show i < D.size by omega]
section
open Go
instance : DecidableEq A8 := fun a b => decidable_of_iff _ (Zd9 (a := a) (b := b))
theorem Xd4 (K : Nat) (x : Int) : Zg6 K x = some (x % 10007) := by
 unfold Zg6
 have h1 : -10007 < x.tmod 10007 ∧ x.tmod 10007 < 10007 := by
  constructor
  have := Int.tmod_lt_of_pos (-x) (show (0 : Int) < 10007 by decide)
  rw [Int.neg_tmod] at this; omega
  exact Int.tmod_lt_of_pos x (by decide)
 rw [IntWalk.i64_in _ (by omega)]
 congr 1
 rw [Int.tmod_eq_emod_of_nonneg (by omega)]
 rw [Int.add_emod_right]
 rcases Int.emod_two_eq x with _ | _ <;> (rw [Int.tmod_eq_emod]; split <;> omega)
def Zm0 (s : MpT) (p : A8) (f : Int) : MpT := if (N9 s p + f) % 10007 = 0 then Zn6 s p else D5 s p ((N9 s p + f) % 10007)
theorem Zx1 {s : MpT} (h : nfm s = true) (a : A8) : 0 ≤ N9 s a ∧ N9 s a ≤ 10006 := by
 by_cases hm : a ∈ s.map Prod.fst
 obtain ⟨⟨b, x⟩, hp, rfl⟩ := List.mem_map.1 hm
 rw [Yf5 (Zw1 (N4 h)) hp]
 have := Zr4 h _ hp
 simp only at this ⊢; omega
 rw [Zj3 hm]; omega
theorem Ye0 {K : Nat} {s : MpT} {p : A8} {f : Int} (h : nfm s = true ∧ -4611686018427387904 ≤ f ∧ f ≤ 4611686018427387904) : T1 K s p f = some (Zm0 s p f) := by
 unfold T1 Zm0
 rw [if_pos h]
 have hb := Zx1 h.1 p
 rw [IntWalk.i64_in _ (by omega), Xd4]
 simp only [Option.bind_some]
 split <;> rfl
theorem Zt7 {s : MpT} {a : A8} {q : A8 × Int} : q ∈ Zn6 s a ↔ q ∈ s ∧ q.1 ≠ a := by
 unfold Zn6
 rw [List.mem_filter]
 constructor
 rintro ⟨h1, h2⟩
 refine ⟨h1, fun e => ?_⟩
 rw [e, Zd9.2 rfl] at h2; simp at h2
 rintro ⟨h1, h2⟩
 refine ⟨h1, ?_⟩
 cases e : eq8 a q.1 with
 | false => rfl
 | true => exact absurd (Zd9.1 e).symm h2
theorem Zz3 {s : MpT} {a : A8} {x : Int} {q : A8 × Int} : q ∈ D5 s a x ↔ q = (a, x) ∨ q ∈ s ∧ q.1 ≠ a := by
 unfold D5
 rw [(Zj9 _ _).mem_iff, List.mem_cons, Zt7]
theorem Zc0 {s : MpT} (h : nfm s = true) (p : A8) (f : Int) : nfm (Zm0 s p f) = true := by
 unfold Zm0
 split
 exact Zz0 (Yo0 (N4 h) p) (fun q hq => Zr4 h q (Zt7.1 hq).1)
 refine Zz0 (Ye3 (N4 h) p _) (fun q hq => ?_)
 rcases Zz3.1 hq with rfl | hq
 simp only; omega
 exact Zr4 h q hq.1
theorem Zp7 {s : MpT} (hs : Srt s) {a : A8} {x : Int} (h : (a, x) ∈ s) : N9 s a = x := Yf5 (Zw1 hs) h
theorem Zo7 {s : MpT} (h : nfm s = true) (p : A8) (f : Int) (a : A8) : N9 (Zm0 s p f) a = if a = p then (N9 s p + f) % 10007 else N9 s a := by
 have hs := N4 h
 have h' := N4 (Zc0 h p f)
 unfold Zm0 at h' ⊢
 split
 rename_i h0
 rw [if_pos h0] at h'
 by_cases e : a = p
 subst e
 rw [if_pos rfl, h0, Zj3]
 intro hm
 obtain ⟨q, hq, e⟩ := List.mem_map.1 hm
 exact (Zt7.1 hq).2 e
 rw [if_neg e]
 by_cases hm : a ∈ s.map Prod.fst
 obtain ⟨⟨b, x⟩, hq, rfl⟩ := List.mem_map.1 hm
 rw [Zp7 hs hq, Zp7 h' (Zt7.2 ⟨hq, e⟩)]
 rw [Zj3 hm, Zj3]
 intro hm'
 obtain ⟨q, hq, rfl⟩ := List.mem_map.1 hm'
 exact hm (List.mem_map.2 ⟨q, (Zt7.1 hq).1, rfl⟩)
 rename_i h0
 rw [if_neg h0] at h'
 by_cases e : a = p
 subst e
 rw [if_pos rfl, Zp7 h' (Zz3.2 (.inl rfl))]
 rw [if_neg e]
 by_cases hm : a ∈ s.map Prod.fst
 obtain ⟨⟨b, x⟩, hq, rfl⟩ := List.mem_map.1 hm
 rw [Zp7 hs hq, Zp7 h' (Zz3.2 (.inr ⟨hq, e⟩))]
 rw [Zj3 hm, Zj3]
 intro hm'
 obtain ⟨q, hq, rfl⟩ := List.mem_map.1 hm'
 rcases Zz3.1 hq with rfl | hq
 exact e rfl
 exact hm (List.mem_map.2 ⟨q, hq.1, rfl⟩)
/-- two sums in normal form are the same if they have the same factors -/
theorem Yr7 {s t : MpT} (hs : nfm s = true) (ht : nfm t = true) (h : ∀ a, N9 s a = N9 t a) : s = t := by
 have key : ∀ {s t : MpT}, nfm s = true → nfm t = true → (∀ a, N9 s a = N9 t a) → ∀ q, q ∈ s → q ∈ t := by
  intro s t hs ht h q hq
  have h1 := Zp7 (N4 hs) (a := q.1) (x := q.2) hq
  rw [h] at h1
  by_cases hm : q.1 ∈ t.map Prod.fst
  obtain ⟨⟨b, x⟩, hp, e⟩ := List.mem_map.1 hm
  simp only at e
  subst e
  rw [Zp7 (N4 ht) hp] at h1
  subst h1; exact hp
  rw [Zj3 hm] at h1
  have := Zr4 hs q hq
  omega
 refine Ys4 (N4 hs) (N4 ht) ?_
 refine (List.perm_ext_iff_of_nodup ?_ ?_).2 (fun q => ⟨key hs ht h q, key ht hs (fun a => (h a).symm) q⟩)
 exact List.Pairwise.of_map Prod.fst (fun a b hab e => hab (by rw [e])) (Zw1 (N4 hs))
 exact List.Pairwise.of_map Prod.fst (fun a b hab e => hab (by rw [e])) (Zw1 (N4 ht))
theorem Xn2 (K : Nat) (s : MpT) (p q : A8) (f g : Int) : (T1 K s p f).bind (fun s => T1 K s q g) = (T1 K s q g).bind (fun s => T1 K s p f) := by
 have hnone : ∀ (s : MpT) (p : A8) (f : Int), ¬ (nfm s = true ∧ -4611686018427387904 ≤ f ∧ f ≤ 4611686018427387904) → T1 K s p f = none := by
  intro s p f h
  unfold T1; rw [if_neg h]
 by_cases hs : nfm s = true
 case neg => rw [hnone s p f (fun h => hs h.1), hnone s q g (fun h => hs h.1)]; rfl
 by_cases hf : -4611686018427387904 ≤ f ∧ f ≤ 4611686018427387904
 case neg =>
  rw [hnone s p f (fun h => hf h.2)]
  cases h : T1 K s q g with
  | none => rfl
  | some t => simp [hnone t p f (fun h => hf h.2)]
 by_cases hg : -4611686018427387904 ≤ g ∧ g ≤ 4611686018427387904
 case neg =>
  rw [hnone s q g (fun h => hg h.2)]
  cases h : T1 K s p f with
  | none => rfl
  | some t => simp [hnone t q g (fun h => hg h.2)]
 rw [Ye0 ⟨hs, hf⟩, Ye0 ⟨hs, hg⟩]
 simp only [Option.bind_some]
 rw [Ye0 ⟨Zc0 hs p f, hg⟩, Ye0 ⟨Zc0 hs q g, hf⟩]
 congr 1
 refine Yr7 (Zc0 (Zc0 hs p f) q g) (Zc0 (Zc0 hs q g) p f) (fun a => ?_)
 rw [Zo7 (Zc0 hs p f), Zo7 (Zc0 hs q g), Zo7 hs, Zo7 hs, Zo7 hs, Zo7 hs]
 by_cases e1 : a = p
 by_cases e2 : a = q
 subst e1; subst e2
 simp only [if_true]
 omega
 rw [if_neg e2, if_pos e1, if_pos e1, if_neg (fun e => e2 (e1.trans e))]
 rw [if_neg e1, if_neg e1]
 by_cases e2 : a = q
 rw [if_pos e2, if_pos e2, if_neg (fun e => e1 (e2.trans e))]
 rw [if_neg e2, if_neg e2]
def M6 (K : Nat) : List (A8 × Int) → MpT → Option MpT
 | [], s => some s
 | o :: os, s => (T1 K s o.1 o.2).bind (M6 K os)
theorem Zu9 {K : Nat} : ∀ (xs ys : List (A8 × Int)) (s : MpT), M6 K (xs ++ ys) s = (M6 K xs s).bind (M6 K ys)
 | [], _, _ => rfl
 | x :: xs, ys, s => by
  show (T1 K s x.1 x.2).bind (M6 K (xs ++ ys)) = ((T1 K s x.1 x.2).bind (M6 K xs)).bind (M6 K ys)
  cases T1 K s x.1 x.2 with
  | none => rfl
  | some t => exact Zu9 xs ys t
theorem Xe3 {K : Nat} {xs ys : List (A8 × Int)} (hp : xs.Perm ys) : ∀ s, M6 K xs s = M6 K ys s := by
 induction hp with
 | nil => intro s; rfl
 | cons x _ ih =>
  intro s
  show (T1 K s x.1 x.2).bind _ = (T1 K s x.1 x.2).bind _
  congr 1; funext t; exact ih t
 | swap x y l =>
  intro s
  have h := congrArg (fun o => Option.bind o (M6 K l)) (Xn2 K s y.1 x.1 y.2 x.2)
  simp only [Option.bind_assoc] at h
  exact h
 | trans _ _ ih1 ih2 => intro s; rw [ih1, ih2]
/-- a step that adds terms, the same ones whatever the sum -/
def Zl3 (K : Nat) (A : MpT → Option MpT) : Prop := ∃ o : Option (List (A8 × Int)), ∀ s, A s = o.bind fun ops => M6 K ops s
def Zk1 (K : Nat) {ρ σ X : Type} (h : X → MpT → σ) (A : MpT → Option (Ex ρ σ)) : Prop := ∃ o : Option (List (A8 × Int) × X), ∀ s, A s = o.bind fun p => (M6 K p.1 s).map fun t => .go (h p.2 t)
section
variable {K : Nat} {A B : MpT → Option MpT} {ρ σ X : Type} {h : X → MpT → σ}
theorem Zl3.comm (hA : Zl3 K A) (hB : Zl3 K B) (s : MpT) : (A s).bind B = (B s).bind A := by
 obtain ⟨a, ha⟩ := hA
 obtain ⟨b, hb⟩ := hB
 have e1 : A = fun s => a.bind fun ops => M6 K ops s := funext ha
 have e2 : B = fun s => b.bind fun ops => M6 K ops s := funext hb
 subst e1; subst e2
 cases a with
 | none => cases b with
  | none => rfl
  | some y => simp only [Option.bind_none, Option.bind_some]; cases M6 K y s <;> rfl
 | some x => cases b with
  | none => simp only [Option.bind_none, Option.bind_some]; cases M6 K x s <;> rfl
  | some y =>
   simp only [Option.bind_some]
   show (M6 K x s).bind (M6 K y) = (M6 K y s).bind (M6 K x)
   rw [← Zu9, ← Zu9]
   exact Xe3 List.perm_append_comm s
theorem Zl3.skip : Zl3 K (fun s => some s) := ⟨some [], fun _ => rfl⟩
theorem Zl3.fail : Zl3 K (fun _ => none) := ⟨none, fun _ => rfl⟩
theorem Zl3.add (p : A8) (f : Int) : Zl3 K (fun s => T1 K s p f) := ⟨some [(p, f)], fun s => by simp [M6]⟩
theorem Zl3.const {β : Type} {c : Option β} {B : β → MpT → Option MpT} (hB : ∀ r, Zl3 K (B r)) : Zl3 K (fun s => c.bind fun r => B r s) := by
 cases c with
 | none => exact .fail
 | some r => exact hB r
theorem Zl3.ite {c : Prop} [Decidable c] (hA : Zl3 K A) (hB : Zl3 K B) : Zl3 K (fun s => if c then A s else B s) := by
 by_cases hc : c
 simp only [if_pos hc]; exact hA
 simp only [if_neg hc]; exact hB
theorem Zk1.go (x : X) : Zk1 K (ρ := ρ) h (fun s => some (.go (h x s))) := ⟨some ([], x), fun _ => rfl⟩
theorem Zk1.fail : Zk1 K (ρ := ρ) h (fun _ => none) := ⟨none, fun _ => rfl⟩
theorem Zk1.bind {B : MpT → Option (Ex ρ σ)} (hA : Zl3 K A) (hB : Zk1 K h B) : Zk1 K h (fun s => (A s).bind B) := by
 obtain ⟨a, ha⟩ := hA
 obtain ⟨b, hb⟩ := hB
 have e1 : A = fun s => a.bind fun ops => M6 K ops s := funext ha
 have e2 : B = fun s => b.bind fun p => (M6 K p.1 s).map fun t => .go (h p.2 t) := funext hb
 subst e1; subst e2
 cases a with
 | none => exact .fail
 | some x => cases b with
  | none => exact ⟨none, fun s => by simp only [Option.bind_none, Option.bind_some]; cases M6 K x s <;> rfl⟩
  | some y =>
   refine ⟨some (x ++ y.1, y.2), fun s => ?_⟩
   simp only [Option.bind_some]
   rw [Zu9]
   cases M6 K x s <;> rfl
theorem Zk1.const {β : Type} {c : Option β} {B : β → MpT → Option (Ex ρ σ)} (hB : ∀ r, Zk1 K h (B r)) : Zk1 K h (fun s => c.bind fun r => B r s) := by
 cases c with
 | none => exact .fail
 | some r => exact hB r
theorem Zk1.ite {c : Prop} [Decidable c] {A B : MpT → Option (Ex ρ σ)} (hA : Zk1 K h A) (hB : Zk1 K h B) : Zk1 K h (fun s => if c then A s else B s) := by
 by_cases hc : c
 simp only [if_pos hc]; exact hA
 simp only [if_neg hc]; exact hB
/-- what such a loop gives, handed on -/
theorem Zk1.step {A : MpT → Option (Ex ρ σ)} (hA : Zk1 K h A) (pr : σ → MpT) (hp : ∀ x s, pr (h x s) = s) :
 ∃ F, Zl3 K F ∧ ∀ {τ : Type} (R : ρ → Option τ) (C : MpT → Option τ) (s : MpT), (A s).bind (Ex.elim R fun y => C (pr y)) = (F s).bind C := by
 obtain ⟨a, ha⟩ := hA
 refine ⟨fun s => a.bind fun p => M6 K p.1 s, ?_, fun R C s => ?_⟩
 cases a with
 | none => exact .fail
 | some p => exact ⟨some p.1, fun _ => rfl⟩
 rw [ha]
 cases a with
 | none => rfl
 | some p =>
  simp only [Option.bind_some]
  cases M6 K p.1 s with
  | none => rfl
  | some t =>
   show C (pr (h p.2 t)) = C t
   rw [hp]
theorem Zv5 (L : Nat → MpT → MpT → Option (Ex ρ σ)) (h0 : ∀ zs s, L 0 zs s = none) (hF : ∀ z, ∃ F, Zl3 K F ∧ ∀ k zs s, L (k + 1) (z :: zs) s = (F s).bind (L k zs)) {zp zq : MpT} (hp : zp.Perm zq) :
 ∀ k s, L k zp s = L k zq s := by
 induction hp with
 | nil => intro k s; rfl
 | cons z _ ih =>
  intro k s
  cases k with
  | zero => rw [h0, h0]
  | succ k =>
   obtain ⟨F, _, hc⟩ := hF z
   rw [hc, hc]
   congr 1; funext t; exact ih k t
 | swap x y l =>
  intro k s
  obtain ⟨Fx, ax, hx⟩ := hF x
  obtain ⟨Fy, ay, hy⟩ := hF y
  cases k with
  | zero => rw [h0, h0]
  | succ k =>
   rw [hx, hy]
   cases k with
   | zero =>
    have e1 : L 0 (x :: l) = fun _ => none := funext fun s => h0 _ s
    have e2 : L 0 (y :: l) = fun _ => none := funext fun s => h0 _ s
    rw [e1, e2]
    cases Fx s <;> cases Fy s <;> rfl
   | succ k =>
    have e1 : L (k + 1) (x :: l) = fun s => (Fx s).bind (L k l) := funext fun s => hx k l s
    have e2 : L (k + 1) (y :: l) = fun s => (Fy s).bind (L k l) := funext fun s => hy k l s
    rw [e1, e2]
    have := congrArg (fun o => Option.bind o (L k l)) (ay.comm ax s)
    simp only [Option.bind_assoc] at this
    exact this
 | trans _ _ ih1 ih2 => intro k s; rw [ih1, ih2]
end
end
section
open Go
def K2 (K : Nat) (a0 : MpT) (a1 : MpT) : Nat → Int → Option (Ex Bool (Unit))
 | 0, _ => none
 | k + 1, a3 => (if a3 < (a0.length : Int) then (if a3 < (a1.length : Int) then ((Zm6 K ((rd a0 a3).1, (rd a0 a3).2) ((rd a1 a3).1, (rd a1 a3).2)).bind fun a7 => (if a7 = true then K2 K a0 a1 k (a3 + 1) else some (.ret false))) else none) else some (.go ()))
def Zl8 (K : Nat) (a0 : MpT) (a1 : MpT) : Option Bool := (if (a0.length : Int) = (a1.length : Int) then ((K2 K a0 a1 K 0).bind (Ex.elim (fun r => some r) (fun s => some true))) else some false)
theorem Ym7 {K : Nat} {a0 : MpT} {a1 : MpT} {r : Bool} (q0 : Zl8 K a0 a1 = some r) {H : FH} {w : World} {L : OL} {s0 : Value} {s1 : Value} (a6 : Y2 yT H s0 a0) (a9 : Y2 yT H s1 a1) (hS : St H w L) :
 Calls Tryz.prog 110 #[s0, s1] w (S3 (fun v G => R.bool.p G v r) H L) := by
 have Z2 := Sub.refl H
 refine X2 Tryz.func110 rfl Tryz.ntmps110 rfl ?_
 unfold Zl8 at q0
 refine Z3 (Z1 (Z5 (Value.bool false) rfl rfl (Z0 (Z3 (Z3 (Z1 (Z4 (s0) rfl rfl ?_)))))))
 have i5 := a6.bound
 refine W6 R2 rfl a6 rfl (Z4 (s1) rfl rfl ?_)
 have i6 := a9.bound
 refine W6 R2 rfl a9 rfl ?_
 refine K9 (k := .i64) (a := (a0.length : Int)) (b := (a1.length : Int)) rfl rfl rfl (Z0 ?_)
 by_cases b7 : (a0.length : Int) = (a1.length : Int)
 rw [if_pos b7] at q0
 refine Z9 (bN b7 rfl) (Y6 (Z3 (Z3 (Z1 (Z5 (vI 0) rfl rfl (Z0 (Y7 ?_)))))))
 obtain ⟨b9, a4, b2⟩ := bind_some q0
 refine W7 (id := 0) (fun k f w => ∃ (a3 : Int) (H1 : FH), K2 K a0 a1 k a3 = some b9 ∧ Sub H H1 ∧ St H1 w (L) ∧ 0 ≤ a3 ∧ Y2 yT H1 s0 a0 ∧ Y2 yT H1 s1 a1 ∧ ev f (.tmp 0) = s0 ∧ ev f (.tmp 1) = s1 ∧ ev f (.tmp 5) = vI a3) (fun f w => ∃ (H1 : FH), b9 = .go () ∧ Sub H H1 ∧ St H1 w (L)) rfl ?_ ?_ K ?_ ?_
 rintro f w ⟨a3, H1, a4, _⟩
 rw [K2] at a4; cases a4
 rintro k f3 f4 e4 e5 ⟨a3, c9, a4, Z2, hS, e6, a6, a9, a8, b1, a5⟩
 rw [K2] at a4
 refine Z3 (Z3 (Z1 (Z4 (vI a3) (by exact a5) rfl (Z4 (s0) (by exact a8) rfl ?_))))
 have i7 := a6.bound
 refine W6 R2 rfl a6 rfl ?_
 refine U2 (k := .i64) (a := a3) (b := (a0.length : Int)) rfl rfl rfl (Z0 ?_)
 by_cases b8 : a3 < (a0.length : Int)
 rw [if_pos b8] at a4
 refine Y0 (bT b8 rfl) (Y6 (Z3 (Y7 (Z3 ?_))))
 obtain ⟨e7, e8, f5, i8, _, d0, b5, ⟨_, _, rfl, rfl, rfl⟩, d1⟩ := a6.elem (i := a3) (by omega) (by omega)
 obtain ⟨f7, a4⟩ := gd a4
 obtain ⟨e9, f0, f8, i9, _, d2, b6, ⟨_, _, rfl, rfl, rfl⟩, d3⟩ := a9.elem (i := a3) (by omega) (by omega)
 obtain ⟨a7, c5, a4⟩ := bind_some a4
 refine U0 10 (Q5 [(17, MP.eq (s0)), (18, MP.eq (vI a3)), (19, MP.eq (Value.pointer (some ⟨e7, e8, none⟩))), (20, MP.eq (vA (Z7 .u8 ((rd a0 a3).1) ++ [vI ((rd a0 a3).2)]))), (21, MP.eq (s1)), (22, MP.eq (vI a3)), (23, MP.eq (Value.pointer (some ⟨e9, f0, none⟩))), (24, MP.eq (vA (Z7 .u8 ((rd a1 a3).1) ++ [vI ((rd a1 a3).2)]))), (25, MP.eq (Value.bool a7)), (26, MP.eq (Value.bool (!a7)))]) [] mixed rfl rfl rfl hS (Z6 rfl ?_ (Z6 rfl ?_ (Z6 rfl ?_ (Z6 rfl ?_ (Z6 rfl ?_ (Z6 rfl ?_ (Z6 rfl ?_ (Z6 rfl ?_ (Z6 rfl ?_ (Z6 rfl ?_ U5)))))))))) ?_
 intro f6 w7 H8 X9 f9 hS d4 g0 hcq
 refine Z4 (s0) (evT (d4 0 rfl) a8) rfl ?_
 exact qn (.refl _) rfl hS rfl
 intro j0 j1 j2 j3 g1 hS d5 g2 hcq
 refine Z4 (vI a3) (evT (d5 5 rfl) a5) rfl ?_
 exact qn (.refl _) rfl hS rfl
 intro j4 j5 j6 j7 g3 hS g4 c0 hcq
 refine W3 R2 rfl (eM (c0 0 17 rfl rfl)) d0 (eM (c0 1 18 rfl rfl)) (by omega) (by omega) rfl ?_
 exact qn (.refl _) rfl hS rfl
 intro j8 j9 k0 k1 d6 hS g5 d7 hcq
 have b5 := d6.1 _ _ b5
 refine V4 (Z7 .u8 ((rd a0 a3).1) ++ [vI ((rd a0 a3).2)]) Zq4 (eM (d7 2 19 rfl rfl)) (hS.froz _ _ b5) rfl d1 rfl ?_
 exact qn (.refl _) rfl hS rfl
 intro k2 k3 k4 k5 g6 hS d8 g7 hcq
 refine Z4 (s1) (evT (d8 1 rfl) b1) rfl ?_
 exact qn (.refl _) rfl hS rfl
 intro k6 k7 k8 k9 g8 hS d9 g9 hcq
 refine Z4 (vI a3) (evT (d9 5 rfl) a5) rfl ?_
 exact qn (.refl _) rfl hS rfl
 intro l0 l1 l2 l3 h0 hS h1 c1 hcq
 refine W3 R2 rfl (eM (c1 4 21 rfl rfl)) d2 (eM (c1 5 22 rfl rfl)) (by omega) (by omega) rfl ?_
 exact qn (.refl _) rfl hS rfl
 intro l4 l5 l6 l7 e0 hS h2 e1 hcq
 have b6 := e0.1 _ _ b6
 refine V4 (Z7 .u8 ((rd a1 a3).1) ++ [vI ((rd a1 a3).2)]) Zq4 (eM (e1 6 23 rfl rfl)) (hS.froz _ _ b6) rfl d3 rfl ?_
 exact qn (.refl _) rfl hS rfl
 intro l9 m0 m1 m2 h3 hS h4 c2 hcq
 refine X0 Tryz.call201 (T0 (eM (c2 3 20 rfl rfl)) (eM (c2 7 24 rfl rfl))) rfl (Yo9 c5  hS) ?_
 rintro h5 h6 ⟨_, h7, rfl, c6, hS, rfl⟩
 refine ⟨_, rfl, ?_⟩
 exact qn c6 rfl hS rfl
 intro h8 h9 i0 i1 f1 hS f2 c7 hcq
 refine M1 (b := a7) (eM (c7 8 25 rfl rfl)) rfl ?_
 exact qn (.refl _) rfl hS rfl
 intro e2 e3 c3 b3 hS b4 c8 hcq
 have hS : St c3 e3 (L) := hS
 have Z2 := Z2.trans b3
 have a6 := a6.mono b3
 have a9 := a9.mono b3
 have c4 : ev e2 (.tmp 26) = Value.bool (!a7) := c8 9 26 (by decide) rfl
 refine Z0 ?_
 by_cases b0 : a7 = true
 rw [if_pos b0] at a4
 refine Z9 (Eq.trans (by exact c4) (congrArg (fun b => Value.bool (!b)) b0)) (Y6 (X3 (Z1 (Z4 (vI a3) (by exact (evT (b4 5 rfl) a5)) rfl ?_))))
 refine W8 (a3 + 1) rfl rfl (IntWalk.i64_in _ (by omega)) rfl (Z5 (vI (a3 + 1)) rfl rfl (Z0 ?_))
 exact e4 _ _ ⟨(a3 + 1), c3, a4, Z2, hS, (by omega), a6, a9, (evT (b4 0 rfl) a8), (evT (b4 1 rfl) b1), rfl⟩
 rw [if_neg b0] at a4
 refine Y0 (Eq.trans (by exact c4) (congrArg (fun b => Value.bool (!b)) (W2 b0))) (Z3 (Z1 (Z5 (Value.bool false) rfl rfl (Z0 ?_))))
 refine Y9 (vs := [Value.bool false]) Tryz.func110 ⟨rfl, trivial⟩ ?_
 have hz := Option.some.inj a4
 subst hz
 dsimp only [Ex.elim] at b2
 have hz := Option.some.inj b2
 subst hz
 exact ⟨_, _, rfl, Z2, hS, rfl⟩
 rw [if_neg b8] at a4
 refine Z9 (bF b8 rfl) ?_
 refine W4 rfl ?_
 have hz := Option.some.inj a4
 subst hz
 exact e5 _ _ ⟨c9, rfl, Z2, hS⟩
 exact ⟨0, H, a4, Z2, hS, (by omega), a6, a9, rfl, rfl, rfl⟩
 rintro i2 i3 ⟨i4, rfl, Z2, hS⟩
 dsimp only [Ex.elim] at b2
 refine Z3 (Z1 (Z5 (Value.bool true) rfl rfl (Z0 ?_)))
 refine Y9 (vs := [Value.bool true]) Tryz.func110 ⟨rfl, trivial⟩ ?_
 have hz := Option.some.inj b2
 subst hz
 exact ⟨_, _, rfl, Z2, hS, rfl⟩
 rw [if_neg b7] at q0
 refine Y0 (bO b7 rfl) (Z3 (Z1 (Z5 (Value.bool false) rfl rfl (Z0 ?_))))
 refine Y9 (vs := [Value.bool false]) Tryz.func110 ⟨rfl, trivial⟩ ?_
 have hz := Option.some.inj q0
 subst hz
 exact ⟨_, _, rfl, Z2, hS, rfl⟩
end
section
open Go
def P8 (K : Nat) (a0 : ((List Int) × (List MpT))) : Nat → Int → M8 → Option (Ex M8 (M8))
 | 0, _, _ => none
 | k + 1, a1, a5 => (if a1 < (a0.2.length : Int) then ((Zh8 K (rd a0.2 a1)).bind fun c7 => (if a1 < 8 then P8 K a0 k (a1 + 1) (Yu9 a5 a1 c7) else none)) else some (.go a5))
def Zb2 (K : Nat) (a0 : ((List Int) × (List MpT))) : Option M8 := ((P8 K a0 K 0 (fun _ => ([] : MpT))).bind (Ex.elim (fun r => some r) (fun s => (fun (a9 : M8) => some a9) s)))
theorem Zz2 {K : Nat} {a0 : ((List Int) × (List MpT))} {r : M8} (q0 : Zb2 K a0 = some r) {H : FH} {w : World} {L : OL} {s0 : Value} (e4 : Zh2 (Zo8 (W0 (Y8 .i64)) (W0 (W0 yT))) H s0 a0) (hS : St H w L) :
 Calls Tryz.prog 146 #[s0] w (S3 (fun v G => (R.agg (tyV .i64)).p G v r) H L) := by
 obtain ⟨e5, e6, f1, g0, _, rfl, d3, ⟨_, _, rfl, ⟨e7, rfl, e2⟩, ⟨b4, rfl, a3⟩⟩, d4⟩ := e4
 have Z2 := Sub.refl H
 refine X2 Tryz.func146 rfl Tryz.ntmps146 rfl ?_
 unfold Zb2 at q0
 refine Z3 (Z1 ?_)
 have b1 : RdV .i64 H Zi3 (fun _ => ([] : MpT)) := RdV.nil
 refine V0 (z := vA (P2 Zi3)) (P2 Zi3).toArray Xm5.zero rfl hS rfl ?_
 intro b2 w3 hS
 refine Z0 (Z3 (Z1 ?_))
 have d2 : RdV .i64 H Zi3 (fun _ => ([] : MpT)) := RdV.nil
 refine Q6 (vA (P2 Zi3)) Wi2 rfl ?_
 have g1 : RdV .i64 H Zi3 (fun _ => ([] : MpT)) := RdV.nil
 refine V0 (z := vA (P2 Zi3)) (P2 Zi3).toArray Xm5.zero rfl hS rfl ?_
 intro b7 w8 hS
 refine X8 (v := vA (P2 Zi3)) (vs := (P2 Zi3).toArray) (cs := (P2 Zi3).toArray) Yp9 rfl rfl rfl hS rfl (Yg1 d2) rfl ?_
 intro g2 hS
 refine Z0 (Z3 (Z3 (Z1 (Z4 (Value.pointer (some ⟨e5, e6, none⟩)) rfl rfl (I3 rfl rfl (Y3 M7 rfl rfl ?_))))))
 refine Y4 (b4) Ze3 rfl (hS.froz _ _ d3) (d4 1 (show 1 < 2 by decide)) rfl ?_
 have f2 := a3.bound
 refine W6 D7 rfl a3 rfl (Z4 (vI 0) rfl rfl (Z0 (Y7 ?_)))
 obtain ⟨c8, a6, c9⟩ := bind_some q0
 refine W7 (id := 0) (fun k f w => ∃ (a1 : Int) (a5 : M8) (H1 : FH) (a4 : V8), P8 K a0 k a1 a5 = some c8 ∧ Sub H H1 ∧ St H1 w ([(b7, cA (P2 a4) 182)] ++ ([(b2, cA (P2 Zi3) 182)] ++ L)) ∧ 0 ≤ a1 ∧ RdV .i64 H1 a4 a5 ∧ RdV .i64 H1 Zi3 (fun _ => ([] : MpT)) ∧ Y2 (W0 yT) H1 b4 a0.2 ∧ ev f (.tmp 2) = vP b2 ∧ ev f (.tmp 3) = vP b7 ∧ ev f (.tmp 10) = b4 ∧ ev f (.tmp 11) = vI (a0.2.length : Int) ∧ ev f (.tmp 12) = vI a1) (fun f w => ∃ (a9 : M8) (H1 : FH) (a7 : V8), c8 = .go a9 ∧ Sub H H1 ∧ St H1 w ([(b7, cA (P2 a7) 182)] ++ ([(b2, cA (P2 Zi3) 182)] ++ L)) ∧ RdV .i64 H1 a7 a9 ∧ RdV .i64 H1 Zi3 (fun _ => ([] : MpT)) ∧ ev f (.tmp 2) = vP b2 ∧ ev f (.tmp 3) = vP b7) rfl ?_ ?_ K ?_ ?_
 rintro f w ⟨a1, a5, H1, a4, a6, _⟩
 rw [P8] at a6; cases a6
 rintro k f3 f4 e8 e9 ⟨a1, a5, d5, a4, a6, Z2, hS, e3, a8, b1, a3, b9, b3, b5, b6, b0⟩
 rw [P8] at a6
 refine Z3 (Z1 ?_)
 refine U2 (k := .i64) (a := a1) (b := (a0.2.length : Int)) (by exact b0) (by exact b6) rfl (Z0 (Z3 ?_))
 by_cases c1 : a1 < (a0.2.length : Int)
 rw [if_pos c1] at a6
 refine Y0 (bT c1 rfl) (Y6 (Z3 (Y7 (Z3 (Z1 (Z4 (vI a1) (by exact b0) rfl ?_))))))
 obtain ⟨g3, g4, f5, g5, _, d6, d7, ⟨c2, rfl, c5⟩, d8⟩ := a3.elem (i := a1) (by omega) (by omega)
 refine W3 D7 rfl (by exact b5) d6 (by exact b0) (by omega) (by omega) rfl ?_
 refine V4 ([c2]) T3 rfl (hS.froz _ _ d7) rfl d8 rfl ?_
 refine V0 (z := vA ([vN])) ([vN]).toArray Ze9.zero rfl hS rfl ?_
 intro g6 g7 hS
 refine Z5 (vI a1) rfl rfl ?_
 refine X8 (v := vA ([c2])) (vs := ([c2]).toArray) (cs := ([vN]).toArray) T3 rfl rfl rfl hS rfl (S2 c5.isOne) rfl ?_
 intro g8 hS
 refine Z0 (Z1 (Z4 (vI a1) rfl rfl ?_))
 refine W1 T3 rfl (hS.get mL) rfl rfl ?_
 obtain ⟨c7, d9, a6⟩ := bind_some a6
 refine X0 Tryz.call90 (M0 rfl) rfl (Zt0 d9 c5 hS) ?_
 rintro g9 h0 ⟨d0, h1, h2, rfl, c3, hS, e0⟩
 refine ⟨_, rfl, ?_⟩
 have Z2 := Z2.trans c3
 have a3 := a3.mono c3
 have b1 := b1.mono c3
 have a8 := a8.mono c3
 obtain ⟨f6, a6⟩ := gd a6
 refine V3 Xx0 (by exact b3) rfl (by omega) (by omega) rfl ?_
 obtain ⟨f0, c4, hS, d1⟩ := e0.freeze hS
 have Z2 := Z2.trans c4
 have a3 := a3.mono c4
 have b1 := b1.mono c4
 have a8 := a8.mono c4
 have hS := hS.perm U1
 have e1 := RdV.upd a8 (a1) d1
 refine Ze4 (v := d0) (cs := (P2 a4).toArray) (cs' := (P2 (Xd0 a4 a1 d0)).toArray) Xl3 rfl rfl hS d1.isOne rfl (by simp [Z7, P2]; omega) (Xv5 (by omega) (by omega)) ?_
 intro h3 hS
 have hS := hS.perm U1.symm
 refine Z0 (X3 (Z1 ?_))
 refine W8 (a1 + 1) (by exact b0) rfl (IntWalk.i64_in _ (by omega)) rfl (Z4 (vI (a1 + 1)) rfl rfl (Z0 ?_))
 have hS := St.dropA hS
 exact e8 _ _ ⟨(a1 + 1), (Yu9 a5 a1 c7), f0, (Xd0 a4 a1 d0), a6, Z2, hS, (by omega), e1, b1, a3, b9, b3, b5, b6, rfl⟩
 rw [if_neg c1] at a6
 refine Z9 (bF c1 rfl) ?_
 refine W4 rfl ?_
 have hz := Option.some.inj a6
 subst hz
 exact e9 _ _ ⟨a5, d5, a4, rfl, Z2, hS, a8, b1, b9, b3⟩
 exact ⟨0, (fun _ => ([] : MpT)), H, Zi3, a6, Z2, hS, (by omega), d2, b1, a3, rfl, rfl, rfl, rfl, rfl⟩
 rintro f7 f8 ⟨a9, f9, a7, rfl, Z2, hS, b8, b1, c0, c6⟩
 dsimp only [Ex.elim] at c9
 refine Z3 (Z1 ?_)
 refine W1 Yp9 (by exact c6) (hS.get mL) rfl rfl ?_
 have hS := hS.perm U1
 refine X8 (v := vA (P2 a7)) (vs := (P2 a7).toArray) (cs := (P2 Zi3).toArray) Yp9 (by exact c0) rfl rfl hS rfl (Yg1 b8) rfl ?_
 intro h4 hS
 have hS := hS.perm U1.symm
 refine Z0 ?_
 refine Y9 (vs := [vA (P2 a7)]) Tryz.func146 ⟨⟨_, (by exact c0), U6 Yp9 (hS.get (mR mL)) rfl⟩, trivial⟩ ?_
 have hz := Option.some.inj c9
 subst hz
 exact ⟨_, _, rfl, Z2, (St.dropA (St.dropA hS)), ⟨_, rfl, ⟨_, rfl, b8⟩⟩⟩
end
section
open Go
def Zg1 (K : Nat) (a0 : (List Int)) (a1 : MpT) (a2 : Int) : Option Bool := ((Zn9 K a0 a1).bind fun r4 => (if r4.2 = true then (if r4.1 = (-1) then some true else some (decide (r4.1 = a2))) else some false))
theorem Yg7 {K : Nat} {a0 : (List Int)} {a1 : MpT} {a2 : Int} {r : Bool} (q0 : Zg1 K a0 a1 a2 = some r) {H : FH} {w : World} {L : OL} {s0 : Value} {s1 : Value} (a5 : Y2 (Y8 .i64) H s0 a0) (a6 : Y2 yT H s1 a1) (hS : St H w L) :
 Calls Tryz.prog 126 #[s0, vA ([s1]), vI a2] w (S3 (fun v G => R.bool.p G v r) H L) := by
 have Z2 := Sub.refl H
 refine X2 Tryz.func126 rfl Tryz.ntmps126 rfl ?_
 unfold Zg1 at q0
 refine Z3 (Z1 ?_)
 refine S5 (v := vA ([s1])) ([s1]).toArray rfl rfl hS rfl ?_
 intro b1 w2 hS
 refine Z5 (Value.bool false) rfl rfl (Z0 (Z3 (Z1 (Z4 (s0) rfl rfl ?_))))
 refine W1 T3 rfl (hS.get mL) rfl rfl ?_
 obtain ⟨r4, a7, q0⟩ := bind_some q0
 refine X0 Tryz.call130 (T0 rfl rfl) rfl (Yk6 a7 a5 a6 hS) ?_
 rintro e4 w5 ⟨_, H4, rfl, a8, hS, ⟨a9, b0, rfl, rfl, rfl⟩⟩
 refine ⟨_, rfl, ?_⟩
 have Z2 := Z2.trans a8
 refine Z4 (Value.tuple #[vI r4.1, Value.bool r4.2]) rfl rfl (V5 (vI r4.1) rfl rfl rfl (V5 (Value.bool r4.2) rfl rfl rfl (Z5 (vI r4.1) rfl rfl (Z5 (Value.bool r4.2) rfl rfl (Z0 (Z3 (Z1 (Z4 (Value.bool r4.2) rfl rfl (Z4 (Value.bool r4.2) rfl rfl ?_)))))))))
 by_cases a3 : r4.2 = true
 rw [if_pos a3] at q0
 refine Y1 rfl rfl (Eq.trans rfl (congrArg Value.bool a3)) (Z4 (vI r4.1) rfl rfl ?_)
 refine Y1 rfl rfl (Eq.trans rfl (congrArg Value.bool a3)) ?_
 refine Zd3 (k := .i64) (a := r4.1) (b := (-1)) rfl rfl rfl ?_
 refine Y1 rfl rfl (Eq.trans rfl (congrArg Value.bool a3)) (Z4 (Value.bool (decide (r4.1 = (-1)))) rfl rfl ?_)
 by_cases a4 : r4.1 = (-1)
 rw [if_pos a4] at q0
 refine Z8 rfl rfl (bT a4 rfl) rfl rfl rfl (Z8 rfl rfl (bT a4 rfl) rfl rfl rfl (Z8 rfl rfl (bT a4 rfl) rfl rfl rfl ?_))
 refine Y1 rfl rfl (Eq.trans rfl (congrArg Value.bool a3)) ?_
 refine V2 (t := true) (Value.bool true) (bT a4 rfl) ((if_pos rfl).trans rfl) rfl ?_
 refine V2 (t := true) (Value.bool true) (Eq.trans rfl (congrArg Value.bool a3)) ((if_pos rfl).trans rfl) rfl (Z5 (Value.bool true) rfl rfl (Z0 ?_))
 refine Y9 (vs := [Value.bool true]) Tryz.func126 ⟨rfl, trivial⟩ ?_
 have hz := Option.some.inj q0
 subst hz
 exact ⟨_, _, rfl, Z2, (St.dropA hS), rfl⟩
 rw [if_neg a4] at q0
 refine Y1 rfl rfl (bF a4 rfl) (Z4 (vI r4.1) rfl rfl ?_)
 refine Y1 rfl rfl (bF a4 rfl) (Z4 (vI a2) rfl rfl ?_)
 refine Y1 rfl rfl (bF a4 rfl) ?_
 refine Zd3 (k := .i64) (a := r4.1) (b := a2) rfl rfl rfl ?_
 refine Y1 rfl rfl (Eq.trans rfl (congrArg Value.bool a3)) ?_
 refine V2 (t := false) (Value.bool (decide (r4.1 = a2))) (bF a4 rfl) ((if_neg Bool.false_ne_true).trans rfl) rfl ?_
 refine V2 (t := true) (Value.bool (decide (r4.1 = a2))) (Eq.trans rfl (congrArg Value.bool a3)) ((if_pos rfl).trans rfl) rfl (Z5 (Value.bool (decide (r4.1 = a2))) rfl rfl (Z0 ?_))
 refine Y9 (vs := [Value.bool (decide (r4.1 = a2))]) Tryz.func126 ⟨rfl, trivial⟩ ?_
 have hz := Option.some.inj q0
 subst hz
 exact ⟨_, _, rfl, Z2, (St.dropA hS), rfl⟩
 rw [if_neg a3] at q0
 refine Z8 rfl rfl (Eq.trans rfl (congrArg Value.bool (W2 a3))) rfl rfl rfl (Z8 rfl rfl (Eq.trans rfl (congrArg Value.bool (W2 a3))) rfl rfl rfl (Z8 rfl rfl (Eq.trans rfl (congrArg Value.bool (W2 a3))) rfl rfl rfl ?_))
 refine V9 rfl rfl rfl rfl rfl ?_
 refine V9 rfl rfl rfl rfl rfl ?_
 refine V9 rfl rfl rfl rfl rfl (Z8 rfl rfl (Eq.trans rfl (congrArg Value.bool (W2 a3))) rfl rfl rfl ?_)
 refine V2 (t := false) (Value.bool false) (Eq.trans rfl (congrArg Value.bool (W2 a3))) ((if_neg Bool.false_ne_true).trans rfl) rfl (Z5 (Value.bool false) rfl rfl (Z0 ?_))
 refine Y9 (vs := [Value.bool false]) Tryz.func126 ⟨rfl, trivial⟩ ?_
 have hz := Option.some.inj q0
 subst hz
 exact ⟨_, _, rfl, Z2, (St.dropA hS), rfl⟩
end
section
open Go
def J6 (K : Nat) (a0 : (List Int)) (a1 : (List MpT)) : Nat → Int → Option (Ex ((List MpT) × Int) (Unit))
 | 0, _ => none
 | k + 1, a3 => (if a3 < (a1.length : Int) then ((Zh1 K a0 (rd a1 a3)).bind fun r4 => (if r4 = true then J6 K a0 a1 k (a3 + 1) else some (.ret (([] : List MpT), 3)))) else some (.go ()))
def Zi6 (K : Nat) (a0 : (List Int)) (a1 : (List MpT)) : Option ((List MpT) × Int) := ((J6 K a0 a1 K 0).bind (Ex.elim (fun r => some r) (fun s => some (a1, 0))))
theorem Yp1 {K : Nat} {a0 : (List Int)} {a1 : (List MpT)} {r : ((List MpT) × Int)} (q0 : Zi6 K a0 a1 = some r) {H : FH} {w : World} {L : OL} {s0 : Value} {s1 : Value} (a8 : Y2 (Y8 .i64) H s0 a0) (a5 : Y2 (W0 yT) H s1 a1) (hS : St H w L) :
 Calls Tryz.prog 173 #[s0, s1] w (S3 (fun v G => (R.t2 (R.sl (W0 yT)) (R.int .i64)).p G v r) H L) := by
 have Z2 := Sub.refl H
 refine X2 Tryz.func173 rfl Tryz.ntmps173 rfl ?_
 unfold Zi6 at q0
 refine Z3 (Z1 (Z5 (vN) rfl rfl (Z5 (vI 0) rfl rfl (Z0 (Z3 (Z3 (Z1 (Z5 (vI 0) rfl rfl (Z0 (Y7 ?_))))))))))
 obtain ⟨b5, a4, b0⟩ := bind_some q0
 refine W7 (id := 0) (fun k f w => ∃ (a3 : Int) (H1 : FH), J6 K a0 a1 k a3 = some b5 ∧ Sub H H1 ∧ St H1 w (L) ∧ 0 ≤ a3 ∧ Y2 (Y8 .i64) H1 s0 a0 ∧ Y2 (W0 yT) H1 s1 a1 ∧ ev f (.tmp 0) = s0 ∧ ev f (.tmp 1) = s1 ∧ ev f (.tmp 6) = vI a3) (fun f w => ∃ (H1 : FH), b5 = .go () ∧ Sub H H1 ∧ St H1 w (L) ∧ Y2 (W0 yT) H1 s1 a1 ∧ ev f (.tmp 1) = s1) rfl ?_ ?_ K ?_ ?_
 rintro f w ⟨a3, H1, a4, _⟩
 rw [J6] at a4; cases a4
 rintro k c7 c8 c0 c1 ⟨a3, b8, a4, Z2, hS, c2, a8, a5, a9, a6, a7⟩
 rw [J6] at a4
 refine Z3 (Z3 (Z1 (Z4 (vI a3) (by exact a7) rfl (Z4 (s1) (by exact a6) rfl ?_))))
 have d2 := a5.bound
 refine W6 D7 rfl a5 rfl ?_
 refine U2 (k := .i64) (a := a3) (b := (a1.length : Int)) rfl rfl rfl (Z0 ?_)
 by_cases b1 : a3 < (a1.length : Int)
 rw [if_pos b1] at a4
 refine Y0 (bT b1 rfl) (Y6 (Z3 (Y7 (Z3 (Z1 (Z4 (s0) (by exact a9) rfl (Z4 (s1) (by exact a6) rfl (Z4 (vI a3) (by exact a7) rfl ?_))))))))
 obtain ⟨b3, o3, d3, E3, _, c3, c4, ⟨b9, rfl, b7⟩, c5⟩ := a5.elem (i := a3) (by omega) (by omega)
 refine W3 D7 rfl rfl c3 rfl (by omega) (by omega) rfl ?_
 refine V4 ([b9]) T3 rfl (hS.froz _ _ c4) rfl c5 rfl ?_
 obtain ⟨r4, c6, a4⟩ := bind_some a4
 refine X0 Tryz.call113 (T0 rfl rfl) rfl (Ya9 c6 a8 b7 hS) ?_
 rintro e4 w5 ⟨_, H4, rfl, b6, hS, rfl⟩
 refine ⟨_, rfl, ?_⟩
 have Z2 := Z2.trans b6
 have a8 := a8.mono b6
 have a5 := a5.mono b6
 refine M1 (b := r4) rfl rfl (Z0 ?_)
 by_cases b2 : r4 = true
 rw [if_pos b2] at a4
 refine Z9 (Eq.trans rfl (congrArg (fun b => Value.bool (!b)) b2)) (Y6 (X3 (Z1 (Z4 (vI a3) (by exact a7) rfl ?_))))
 refine W8 (a3 + 1) rfl rfl (IntWalk.i64_in _ (by omega)) rfl (Z5 (vI (a3 + 1)) rfl rfl (Z0 ?_))
 exact c0 _ _ ⟨(a3 + 1), H4, a4, Z2, hS, (by omega), a8, a5, a9, a6, rfl⟩
 rw [if_neg b2] at a4
 refine Y0 (Eq.trans rfl (congrArg (fun b => Value.bool (!b)) (W2 b2))) (Z3 (Z1 (Z5 (vN) rfl rfl (Z5 (vI 3) rfl rfl (Z0 ?_)))))
 refine Y9 (vs := [vN, vI 3]) Tryz.func173 ⟨rfl, rfl, trivial⟩ ?_
 have hz := Option.some.inj a4
 subst hz
 dsimp only [Ex.elim] at b0
 have hz := Option.some.inj b0
 subst hz
 exact ⟨_, _, rfl, Z2, hS, ⟨_, _, rfl, Y2.nil, rfl⟩⟩
 rw [if_neg b1] at a4
 refine Z9 (bF b1 rfl) ?_
 refine W4 rfl ?_
 have hz := Option.some.inj a4
 subst hz
 exact c1 _ _ ⟨b8, rfl, Z2, hS, a5, a6⟩
 exact ⟨0, H, a4, Z2, hS, (by omega), a8, a5, rfl, rfl, rfl⟩
 rintro c9 d0 ⟨d1, rfl, Z2, hS, a5, b4⟩
 dsimp only [Ex.elim] at b0
 refine Z3 (Z1 (Z4 (s1) (by exact b4) rfl (Z5 (s1) rfl rfl (Z5 (vI 0) rfl rfl (Z0 ?_)))))
 refine Y9 (vs := [s1, vI 0]) Tryz.func173 ⟨rfl, rfl, trivial⟩ ?_
 have hz := Option.some.inj b0
 subst hz
 exact ⟨_, _, rfl, Z2, hS, ⟨_, _, rfl, a5, rfl⟩⟩
end
section
open Go
def Zg0 (K : Nat) (a0 : (List Int)) : Option Bool := (if (a0.length : Int) ≤ 8 then ((N8 K a0 (fun x => Zg3 K x)).bind fun r3 => some (!r3)) else some false)
theorem Ye1 {K : Nat} {a0 : (List Int)} {r : Bool} (q0 : Zg0 K a0 = some r) {H : FH} {w : World} {L : OL} {s0 : Value} (a3 : Y2 (Y8 .i64) H s0 a0) (hS : St H w L) :
 Calls Tryz.prog 124 #[s0] w (S3 (fun v G => R.bool.p G v r) H L) := by
 have Z2 := Sub.refl H
 refine X2 Tryz.func124 rfl Tryz.ntmps124 rfl ?_
 unfold Zg0 at q0
 refine Z3 (Z1 (Z5 (Value.bool false) rfl rfl (Z0 (Z3 (Z1 (Z4 (s0) rfl rfl ?_))))))
 have a8 := a3.bound
 refine W6 S9 rfl a3 rfl ?_
 refine Yb3 (k := .i64) (a := (a0.length : Int)) (b := 8) rfl rfl rfl (Z4 (Value.bool (decide ((a0.length : Int) ≤ 8))) rfl rfl ?_)
 by_cases a1 : (a0.length : Int) ≤ 8
 rw [if_pos a1] at q0
 refine Y1 rfl rfl (bT a1 rfl) (Z4 (s0) rfl rfl ?_)
 obtain ⟨r3, a4, q0⟩ := bind_some q0
 refine Y1 rfl rfl (bT a1 rfl) ?_
 refine X0 Tryz.call218 (T0 rfl rfl) rfl (Zo1 a4 a3 ⟨219, #[], rfl, Tryz.call219, fun H2 w2 L2 v x b a9 a5 hv a6 => by obtain rfl := hv; exact Ya4 a6   a5⟩ hS) ?_
 rintro e3 w5 ⟨_, H3, rfl, a7, hS, rfl⟩
 refine ⟨_, rfl, ?_⟩
 have Z2 := Z2.trans a7
 refine Y1 rfl rfl (bT a1 rfl) (M1 (b := r3) rfl rfl ?_)
 refine V2 (t := true) (Value.bool (!r3)) (bT a1 rfl) ((if_pos rfl).trans rfl) rfl (Z5 (Value.bool (!r3)) rfl rfl (Z0 ?_))
 refine Y9 (vs := [Value.bool (!r3)]) Tryz.func124 ⟨rfl, trivial⟩ ?_
 have hz := Option.some.inj q0
 subst hz
 exact ⟨_, _, rfl, Z2, hS, rfl⟩
 rw [if_neg a1] at q0
 refine Z8 rfl rfl (bF a1 rfl) rfl rfl rfl (Z8 rfl rfl (bF a1 rfl) rfl rfl rfl (Z8 rfl rfl (bF a1 rfl) rfl rfl rfl ?_))
 refine V2 (t := false) (Value.bool false) (bF a1 rfl) ((if_neg Bool.false_ne_true).trans rfl) rfl (Z5 (Value.bool false) rfl rfl (Z0 ?_))
 refine Y9 (vs := [Value.bool false]) Tryz.func124 ⟨rfl, trivial⟩ ?_
 have hz := Option.some.inj q0
 subst hz
 exact ⟨_, _, rfl, Z2, hS, rfl⟩
end
end Go.Proofs.YtfodlhkoafhplaaGreat
