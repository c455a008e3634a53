/- Walks of functions: each computes its pure function, if that gives a value. -/
import Derived.Test.YtfodlhkoafhplaaGreatWF3
import Derived.Test.YtfodlhkoafhplaaGreatShelfP
import Derived.Test.YtfodlhkoafhplaaGreatWTy
import Derived.Test.YtfodlhkoafhplaaGreatWF1
import Derived.Test.YtfodlhkoafhplaaGreatWF4
import Derived.Test.YtfodlhkoafhplaaGreatWF2
namespace Go.Proofs.YtfodlhkoafhplaaGreat
open Go Go.Sort Go.RowKit Go.Shelf Go.Lib
set_option linter.unusedSimpArgs false
set_option linter.unusedVariables false
set_option maxRecDepth 100000
set_option maxHeartbeats 8000000
abbrev Zu0 := {a : A8 // ∀ i, 0 ≤ a i ∧ a i ≤ 2305843009213693952}
instance : Inhabited Zu0 := ⟨⟨fun _ => 0, fun _ => by simp⟩⟩
def Yt0 (a b : A8) : Int :=
 if a 0 = b 0 then if a 1 = b 1 then if a 2 = b 2 then if a 3 = b 3 then if a 4 = b 4 then if a 5 = b 5 then if a 6 = b 6 then if a 7 = b 7 then 0
  else IntKind.i64.wrap (b 7 - a 7) else IntKind.i64.wrap (b 6 - a 6) else IntKind.i64.wrap (b 5 - a 5) else IntKind.i64.wrap (b 4 - a 4) else IntKind.i64.wrap (b 3 - a 3)
  else IntKind.i64.wrap (b 2 - a 2) else IntKind.i64.wrap (b 1 - a 1) else IntKind.i64.wrap (b 0 - a 0)
theorem Wd2 (a b : A8) : D4 9 a b = some (Yt0 a b) := by
 have e : ∀ (m : A8) (j : Nat) (h : j < 8), Y5 m (j : Int) = m ⟨j, h⟩ := fun m j h => by unfold Y5; simp [h]
 have e0 := fun m => e m 0 (by decide)
 have e1 := fun m => e m 1 (by decide)
 have e2 := fun m => e m 2 (by decide)
 have e3 := fun m => e m 3 (by decide)
 have e4 := fun m => e m 4 (by decide)
 have e5 := fun m => e m 5 (by decide)
 have e6 := fun m => e m 6 (by decide)
 have e7 := fun m => e m 7 (by decide)
 simp only [Int.ofNat_zero, Int.natCast_one, Int.cast_ofNat_Int] at e0 e1 e2 e3 e4 e5 e6 e7
 unfold D4 Yt0
 have z : ∀ (j k : Int), j + 1 = k → j + 1 = k := fun _ _ h => h
 simp only [P1, show (0 : Int) + 1 = 1 from rfl, show (1 : Int) + 1 = 2 from rfl, show (2 : Int) + 1 = 3 from rfl, show (3 : Int) + 1 = 4 from rfl, show (4 : Int) + 1 = 5 from rfl, show (5 : Int) + 1 = 6 from rfl,
  show (6 : Int) + 1 = 7 from rfl, show (7 : Int) + 1 = 8 from rfl, show (0 : Int) < 8 from by decide, show (1 : Int) < 8 from by decide, show (2 : Int) < 8 from by decide, show (3 : Int) < 8 from by decide, show (4 : Int) < 8 from by decide,
  show (5 : Int) < 8 from by decide, show (6 : Int) < 8 from by decide, show (7 : Int) < 8 from by decide, show ¬ (8 : Int) < 8 from by decide, if_true, if_false, e0, e1, e2, e3, e4, e5, e6, e7]
 simp only [show (⟨0, by decide⟩ : Fin 8) = 0 from rfl, show (⟨1, by decide⟩ : Fin 8) = 1 from rfl, show (⟨2, by decide⟩ : Fin 8) = 2 from rfl, show (⟨3, by decide⟩ : Fin 8) = 3 from rfl, show (⟨4, by decide⟩ : Fin 8) = 4 from rfl,
  show (⟨5, by decide⟩ : Fin 8) = 5 from rfl, show (⟨6, by decide⟩ : Fin 8) = 6 from rfl, show (⟨7, by decide⟩ : Fin 8) = 7 from rfl]
 by_cases h0 : a 0 = b 0
 by_cases h1 : a 1 = b 1
 by_cases h2 : a 2 = b 2
 by_cases h3 : a 3 = b 3
 by_cases h4 : a 4 = b 4
 by_cases h5 : a 5 = b 5
 by_cases h6 : a 6 = b 6
 by_cases h7 : a 7 = b 7
 simp [h0, h1, h2, h3, h4, h5, h6, h7, Ex.elim]
 simp [h0, h1, h2, h3, h4, h5, h6, h7, Ex.elim]
 simp [h0, h1, h2, h3, h4, h5, h6, Ex.elim]
 simp [h0, h1, h2, h3, h4, h5, Ex.elim]
 simp [h0, h1, h2, h3, h4, Ex.elim]
 simp [h0, h1, h2, h3, Ex.elim]
 simp [h0, h1, h2, Ex.elim]
 simp [h0, h1, Ex.elim]
 simp [h0, Ex.elim]
theorem Xy4 {x y : Int} (hx : 0 ≤ x ∧ x ≤ 2305843009213693952) (hy : 0 ≤ y ∧ y ≤ 2305843009213693952) : decide (IntKind.i64.wrap (y - x) < 0) = decide (y < x) := by
 rw [IntWalk.i64_in _ (by omega)]
 simp only [decide_eq_decide]
 omega
theorem Yw4 (x y : Zu0) : ltOf (fun x y : Zu0 => Yt0 x.1 y.1) x y = bef x.1 y.1 := by
 unfold ltOf Yt0 bef l8
 have hw : ∀ i, decide (IntKind.i64.wrap (y.1 i - x.1 i) < 0) = decide (y.1 i < x.1 i) := fun i => Xy4 (x.2 i) (y.2 i)
 simp only [Zh6]
 by_cases h0 : x.1 0 = y.1 0
 by_cases h1 : x.1 1 = y.1 1
 by_cases h2 : x.1 2 = y.1 2
 by_cases h3 : x.1 3 = y.1 3
 by_cases h4 : x.1 4 = y.1 4
 by_cases h5 : x.1 5 = y.1 5
 by_cases h6 : x.1 6 = y.1 6
 by_cases h7 : x.1 7 = y.1 7
 simp [h0, h1, h2, h3, h4, h5, h6, h7]
 simp only [h0, h1, h2, h3, h4, h5, h6, if_true, if_neg h7]; exact hw 7
 simp only [h0, h1, h2, h3, h4, h5, if_true, if_neg h6]; exact hw 6
 simp only [h0, h1, h2, h3, h4, if_true, if_neg h5]; exact hw 5
 simp only [h0, h1, h2, h3, if_true, if_neg h4]; exact hw 4
 simp only [h0, h1, h2, if_true, if_neg h3]; exact hw 3
 simp only [h0, h1, if_true, if_neg h2]; exact hw 2
 simp only [h0, if_true, if_neg h1]; exact hw 1
 simp only [if_neg h0]; exact hw 0
theorem Wh7 : SWO (ltOf fun x y : Zu0 => Yt0 x.1 y.1) where
 irrefl x := by rw [Yw4]; exact Zv7 _
 trans x y z h1 h2 := by rw [Yw4] at *; exact Zp4 h1 h2
 ntrans x y z h1 h2 := by
  rw [Yw4] at *
  cases h : bef x.1 z.1 with
  | false => rfl
  | true =>
   by_cases exy : x.1 = y.1
   rw [exy] at h; rw [h] at h2; cases h2
   have hyx : bef y.1 x.1 = true := (Ya4 exy).resolve_left (by rw [h1]; simp)
   rw [Zp4 hyx h] at h2; cases h2
/-- a world in which all is frozen; what comes behind it -/
def FH.all (W : World) : FH := ⟨fun b => W.heap[b]?, fun _ => none, some (W.tape, W.os, W.output, W.drawn, W.heap.size)⟩
theorem St.all (W : World) : St (FH.all W) W [] := ⟨fun _ _ h => h, fun _ _ h => (by cases h), fun t h => (by cases h; exact ⟨rfl, rfl, rfl, Nat.le_refl _⟩), fun b o h hl => (by
 have h : W.heap[b]? = some o := h
 have hl : W.heap.size ≤ b := hl
 rw [Array.getElem?_eq_none hl] at h; cases h), fun _ h => (by cases h), List.nodup_nil, fun _ h => (by cases h)⟩
theorem Xy3 {W w' : World} {H' : FH} (hs : Sub (FH.all W) H') (hS : St H' w' []) : ∃ q os, w' = grow (W.drewN q) os := by
 obtain ⟨h1, h2, h3, h4⟩ := hS.rest _ (hs.2.2.trans rfl)
 have hsz : W.heap.size ≤ w'.heap.size := by
  by_cases h0 : W.heap.size = 0
  omega
  have hl : W.heap[W.heap.size - 1]? = some W.heap[W.heap.size - 1] := by simp
  have := Zd6 (hS.froz _ _ (hs.1 _ _ hl))
  omega
 refine ⟨w'.drawn - W.drawn, w'.heap.extract W.heap.size w'.heap.size, ?_⟩
 have hh : w'.heap = W.heap ++ w'.heap.extract W.heap.size w'.heap.size := by
  apply Array.ext_getElem?
  intro i
  rw [Array.getElem?_append]
  split
  rename_i hi
  have hl : W.heap[i]? = some W.heap[i] := by simp [hi]
  rw [hl]
  exact hS.froz _ _ (hs.1 _ _ hl)
  rename_i hi
  rw [Array.getElem?_extract]
  by_cases hi2 : i < w'.heap.size
  rw [if_pos (by omega)]
  congr 1; omega
  rw [if_neg (by omega)]
  simp; omega
 obtain ⟨hp, tp, dr, os, out⟩ := w'
 simp only at h1 h2 h3 h4 hh hsz ⊢
 unfold grow World.drewN
 simp only
 congr 1
 omega
theorem Wc7 (blk off size : Nat) (w : World) : CmpLays Tryz.prog 221 #[] (fun x : Zu0 => Z7 .i64 x.1) 8 (fun x y => Yt0 x.1 y.1) blk off size w := by
 intro m os dk hd x y
 have h := Zt9 (Wd2 x.1 y.1) (St.all (sortWorldK (fun x : Zu0 => Z7 .i64 x.1) 8 w blk off m dk os))
 refine h.mono ?_
 rintro e w' ⟨v, H', rfl, hs, hS, hv⟩
 exact ⟨congrArg Ending.returned hv, Xy3 hs hS⟩
theorem St.ahead {H : FH} {w : World} {L : OL} (h : St H w L) (n : Nat) : St H (Sort.ahead w n) L :=
 ⟨h.froz, h.memo, fun t ht => (let ⟨a, b, c, d⟩ := h.rest t ht; ⟨a, b, c, Nat.le_trans d (Nat.le_add_right _ _)⟩), h.nofz, h.own, h.nodup, h.apart⟩
theorem St.grown {H : FH} {w : World} {L : OL} (h : St H w L) (os : Array Obj) : St H (grow w os) L := by
 have hlt : ∀ b o', w.heap[b]? = some o' → (grow w os).heap[b]? = some o' := fun b o' hb => by
  have := Zd6 hb
  show (w.heap ++ os)[b]? = some o'
  rw [Array.getElem?_append_left this]; exact hb
 exact ⟨fun b o hb => hlt b o (h.froz b o hb), fun b I hb => (let ⟨h1, h2, o, h3, h4⟩ := h.memo b I hb; ⟨h1, h2, o, hlt _ _ h3, h4⟩), h.rest, h.nofz, fun x hx => hlt _ _ (h.own x hx), h.nodup, h.apart⟩
theorem St.mapBlock {H : FH} {w : World} {L : OL} {b : Nat} {cs : Array Value} {E : TypeId} (h : St H w ([(b, .cells cs E)] ++ L)) (f : Array Value → Array Value) : St H (Sort.mapBlock w b f) ([(b, .cells (f cs) E)] ++ L) := by
 have hw : w.heap[b]? = some (.cells cs E) := St.hd h
 have e : Sort.mapBlock w b f = { w with heap := w.heap.setIfInBounds b (.cells (f cs) E) } := by
  unfold Sort.mapBlock
  congr 1
  apply Array.ext_getElem?
  intro k
  rw [Array.getElem?_modify, Array.getElem?_setIfInBounds]
  by_cases hk : b = k
  subst hk
  have := Zd6 hw
  rw [hw]
  simp [this, onCells]
  simp [hk]
 rw [e]
 exact St.put h _
theorem Wc0 {xs : List A8} (hb : ∀ a, a ∈ xs → ∀ i, 0 ≤ a i ∧ a i ≤ 2305843009213693952) : ∃ ks : List Zu0, ks.map Subtype.val = xs := by
 induction xs with
 | nil => exact ⟨[], rfl⟩
 | cons a xs ih =>
  obtain ⟨ks, rfl⟩ := ih (fun b h => hb b (List.mem_cons_of_mem _ h))
  exact ⟨⟨a, hb a (List.mem_cons_self ..)⟩ :: ks, rfl⟩
theorem Xz0 (ks : List Zu0) (t : Nat) (h : t < ks.length * 8) : (flatK (fun x : Zu0 => Z7 .i64 x.1) 8 ks.toArray)[t]! = (Z7 .i64 (ks[t / 8]!).1)[t % 8]! := by
 rw [get_flatK _ _ _ _ (by simpa using h)]
 simp
theorem We2 {H : FH} {w : World} {L : OL} {b c : Nat} {cs : Array Value} {xs : List A8} (hl : xs.length ≤ c) (hc : c ≤ maxLen) (hcs : cs.size = c * 8)
 (hx : ∀ i x, xs[i]? = some x → ∀ j, j < 8 → cs[i * 8 + j]? = (Z7 .i64 x)[j]?) (hS : St H w ([(b, .cells cs 188)] ++ L))
 (hb : ∀ a, a ∈ xs → ∀ i, 0 ≤ a i ∧ a i ≤ 2305843009213693952) (hlen : xs.length ≤ 1099511627776) (hnd : xs.Nodup) :
 Calls Tryz.prog 253 #[.slice (some ⟨b, 0, none⟩) xs.length c, .func (.func 221) #[] #[]] w (fun e w' => e = .returned (.tuple #[]) ∧ ∃ ys C', ys.Perm xs ∧ ys.Pairwise (fun p q => bef p q = true) ∧ St H w' (C' ++ L) ∧
  U1 (Zo6 .i64) 188 H (.slice (some ⟨b, 0, none⟩) xs.length c) ys C') := by
 obtain ⟨ks, rfl⟩ := Wc0 hb
 have hw : w.heap[b]? = some (.cells cs 188) := St.hd hS
 have hget : ∀ (t : Nat), t < ks.length * 8 → cs[t]? = some ((flatK (fun x : Zu0 => Z7 .i64 x.1) 8 ks.toArray)[t]!) := by
  intro t ht
  have h8 : t / 8 < ks.length := by omega
  have := hx (t / 8) (ks[t / 8]).1 (by simp [h8]) (t % 8) (Nat.mod_lt _ (by decide))
  rw [show t / 8 * 8 + t % 8 = t by omega] at this
  rw [this, Xz0 ks t ht]
  have he : (Z7 .i64 (ks[t / 8]).1).length = 8 := rfl
  have h9 : t % 8 < (Z7 .i64 (ks[t / 8]).1).length := by rw [he]; exact Nat.mod_lt _ (by decide)
  rw [getElem!_pos ks _ h8, List.getElem?_eq_getElem h9, getElem!_pos (Z7 .i64 (ks[t / 8]).1) _ h9]
 have hH : HoldsK (fun x : Zu0 => Z7 .i64 x.1) 8 w b 0 ks.toArray := by
  intro j hj
  rw [size_flatK] at hj
  have hj' : j < ks.length * 8 := by simpa using hj
  refine ⟨?_, ?_⟩
  rw [World.cell?, hw]
  simp only [Nat.zero_add]
  rw [hget j hj']; rfl
  simp [World.frozen?, hw]
 have hcall := AnyQ.slices_SortFunc Tryz.sortP 8 Tryz.isAgg188 Tryz.sizeOf188 (fun x : Zu0 => Z7 .i64 x.1) (fun _ => rfl) (fun x v hv => S8 _ _ v hv) (fun x y => Yt0 x.1 y.1) Wh7 221 #[] b 0 c ks.toArray w Tryz.call221
  (Wc7 b 0 ks.toArray.size w) hH (Zd6 hw) (by simp at hlen ⊢; omega)
 change Calls Tryz.prog 253 _ _ _ at hcall
 simp only [List.size_toArray, List.length_map] at hcall ⊢
 refine hcall.mono ?_
 rintro e w' ⟨rfl, d', n, os, hp, hs, rfl⟩
 have hsz : d'.size = ks.length := by have := hp.1; simpa using this
 have hperm : d'.toList.Perm ks := by
  have := hp.2.2
  rw [Array.extract_eq_self_of_le (by omega), Array.extract_eq_self_of_le (by simp)] at this
  simpa using this
 have hF : (flatK (fun x : Zu0 => Z7 .i64 x.1) 8 d').size = ks.length * 8 := by rw [size_flatK, hsz]
 refine ⟨rfl, d'.toList.map Subtype.val, [(b, .cells (putCells id 0 (flatK (fun x : Zu0 => Z7 .i64 x.1) 8 d') cs) 188)], hperm.map _, ?_, ?_, .inr ⟨b, c, _, ?_, ?_, hc, ?_, rfl, ?_⟩⟩
 rw [List.pairwise_map, List.pairwise_iff_getElem]
 intro i j hi hj hij
 have hi' : i < d'.size := by simpa using hi
 have hj' : j < d'.size := by simpa using hj
 have := hs i j (Nat.zero_le _) hij (by simp at hj ⊢; omega)
 rw [Yw4, getElem!_pos d' j hj', getElem!_pos d' i hi'] at this
 simp only [Array.getElem_toList]
 refine (Ya4 ?_).resolve_right (by rw [this]; simp)
 intro e
 have hnd' : (d'.toList.map Subtype.val).Nodup := (hperm.map _).nodup_iff.2 hnd
 have := (List.nodup_iff_pairwise_ne.1 hnd')
 rw [List.pairwise_map, List.pairwise_iff_getElem] at this
 exact this i j hi hj hij (by simpa using e)
 have h1 := (hS.ahead n).mapBlock (putCells id 0 (flatK (fun x : Zu0 => Z7 .i64 x.1) 8 d'))
 exact h1.grown os
 simp [hsz]
 simp [hsz]; simpa using hl
 simp only [putCells, Array.size_mapIdx]
 exact hcs
 intro i x hix
 refine ⟨_, rfl, fun j hj => ?_⟩
 have hj : j < 8 := hj
 have hi : i < d'.size := by
  rcases Nat.lt_or_ge i d'.size with h | h
  exact h
  rw [List.getElem?_eq_none (by simpa using h)] at hix; cases hix
 have hxv : x = d'[i].1 := by
  rw [List.getElem?_map] at hix
  simp [hi] at hix
  exact hix.symm
 subst hxv
 show (putCells id 0 (flatK (fun x : Zu0 => Z7 .i64 x.1) 8 d') cs)[i * 8 + j]? = _
 have ht : i * 8 + j < ks.length * 8 := by omega
 have hcl : i * 8 + j < cs.size := by rw [hcs]; simp at hl; omega
 simp only [putCells, Array.getElem?_mapIdx]
 rw [Array.getElem?_eq_getElem hcl]
 simp only [Option.map_some]
 rw [if_pos (by rw [hF]; omega), Nat.sub_zero, get_flatK _ _ _ _ (by rw [hsz]; exact ht)]
 rw [show (i * 8 + j) / 8 = i by omega, show (i * 8 + j) % 8 = j by omega, getElem!_pos d' _ hi]
 have h9 : j < (Z7 .i64 d'[i].1).length := hj
 rw [getElem!_pos (Z7 .i64 d'[i].1) j h9, List.getElem?_eq_getElem h9]; rfl
section
open Go
def Za3 (K : Nat) (a0 : ((List Int) × (List MpT))) : Nat → Int → (List MpT) → Option (Ex ((List Int) × (List MpT)) ((List MpT)))
 | 0, _, _ => none
 | k + 1, a4, a1 => (if a4 < (a0.2.length : Int) then ((Zo1 K (rd a0.2 a4) 0).bind fun c3 => (if a1.length + ([c3]).length ≤ 1099511627776 then Za3 K a0 k (a4 + 1) (a1 ++ [c3]) else none)) else some (.go a1))
def Zq2 (K : Nat) (a0 : ((List Int) × (List MpT))) : Option ((List Int) × (List MpT)) := ((Zu3 K a0.1).bind fun r7 => ((Za3 K a0 K 0 ([] : List MpT)).bind (Ex.elim (fun r => some r) (fun s => (fun (a7 : (List MpT)) => some (r7, a7)) s))))
theorem Yu2 {K : Nat} {a0 : ((List Int) × (List MpT))} {r : ((List Int) × (List MpT))} (q0 : Zq2 K a0 = some r) {H : FH} {w : World} {L : OL} {s0 : Value} {s1 : Value} (b6 : Y3 (X3 .i64) H s0 a0.1) (b2 : Y3 (X6 yT) H s1 a0.2) (hS : St H w L) :
 Calls Tryz.prog 142 #[vA ([s0] ++ [s1])] w (Wl1 (X3 .i64) (X6 yT) 47 r H L) := by
 have Z2 := Sub.refl H
 refine X0 Tryz.func142 rfl Tryz.ntmps142 rfl ?_
 unfold Zq2 at q0
 refine Z3 (Z1 ?_)
 refine T7 (v := vA ([s0] ++ [s1])) ([s0] ++ [s1]).toArray rfl rfl hS rfl ?_
 intro b1 w2 hS
 refine W9 (z := vA ([vN] ++ [vN])) ([vN] ++ [vN]).toArray Zu9.zero rfl hS rfl ?_
 intro b4 w5 hS
 refine Z0 (Z3 (Z1 (Y2 R4 rfl rfl ?_)))
 refine Y4 (s0) J3 rfl (hS.get (mR mL)) rfl rfl ?_
 obtain ⟨r7, g7, q0⟩ := bind_some q0
 refine Y8 Tryz.call234 (Q8 rfl) rfl (Yu4 g7 b6 hS) ?_
 rintro e7 w8 ⟨v7, H7, rfl, d5, hS, b3⟩
 refine ⟨_, rfl, ?_⟩
 have Z2 := Z2.trans d5
 have b6 := b6.mono d5
 have b2 := b2.mono d5
 refine Zo9 ([v7] ++ [vN]) Xv9 (Ze0 rfl) (K5 rfl b3.cellsL rfl (Nat.le_of_ble_eq_true rfl) (Zk3 rfl)) rfl ?_
 refine W9 (z := vA ([vN] ++ [vN])) ([vN] ++ [vN]).toArray Zu9.zero rfl hS rfl ?_
 intro b9 k7 hS
 refine W1 (v := vA ([v7] ++ [vN])) (vs := ([v7] ++ [vN]).toArray) (cs := ([vN] ++ [vN]).toArray) P9 rfl rfl rfl hS rfl (J6 (S2 b3.isOne) (S2 rfl)) rfl ?_
 intro k8 hS
 refine Z0 (Z3 (Z3 (Z1 (Z6 (vI 0) rfl rfl (Z0 (Y7 ?_))))))
 have d6 : U1 (X6 yT) 47 H7 (.slice none 0 0) [] [] := U1.nil _ _ _
 obtain ⟨d7, a8, d8⟩ := bind_some q0
 refine W7 (id := 0) (fun k f w => ∃ (a4 : Int) (a1 : (List MpT)) (H1 : FH) (a5 : OL) (a3 : Value), Za3 K a0 k a4 a1 = some d7 ∧ Sub H H1 ∧ St H1 w (a5 ++ ([(b9, cA ([v7] ++ [a3]) 29)] ++ ([(b4, cA ([vN] ++ [vN]) 29)] ++ ([(b1, cA ([s0] ++ [s1]) 29)] ++ L)))) ∧ 0 ≤ a4 ∧ U1 (X6 yT) 47 H1 a3 a1 a5 ∧ Y3 (X3 .i64) H1 s0 a0.1 ∧ Y3 (X6 yT) H1 s1 a0.2 ∧ Y3 (X3 .i64) H1 v7 r7 ∧ ev f (.tmp 1) = vP b1 ∧ ev f (.tmp 2) = vP b4 ∧ ev f (.tmp 3) = vP b9 ∧ ev f (.tmp 4) = vI a4) (fun f w => ∃ (a7 : (List MpT)) (H1 : FH) (b0 : OL) (a6 : Value), d7 = .go a7 ∧ Sub H H1 ∧ St H1 w (b0 ++ ([(b9, cA ([v7] ++ [a6]) 29)] ++ ([(b4, cA ([vN] ++ [vN]) 29)] ++ ([(b1, cA ([s0] ++ [s1]) 29)] ++ L)))) ∧ U1 (X6 yT) 47 H1 a6 a7 b0 ∧ Y3 (X3 .i64) H1 s0 a0.1 ∧ Y3 (X6 yT) H1 s1 a0.2 ∧ Y3 (X3 .i64) H1 v7 r7 ∧ ev f (.tmp 2) = vP b4 ∧ ev f (.tmp 3) = vP b9) rfl ?_ ?_ K ?_ ?_
 rintro f w ⟨a4, a1, H1, a5, a3, a8, _⟩
 rw [Za3] at a8; cases a8
 rintro k h5 h6 g8 g9 ⟨a4, a1, e8, a5, a3, a8, Z2, hS, h0, a9, b6, b2, b3, b8, c5, c0, c1⟩
 rw [Za3] at a8
 refine Z3 (Z3 (Z1 (Z4 (vI a4) (by exact c1) rfl (Y2 N5 (by exact b8) rfl ?_))))
 refine Y4 (s1) Zd8 rfl (hS.get (mR (mR (mR mL)))) rfl rfl ?_
 have h7 := b2.bound
 refine W6 J2 rfl b2 rfl ?_
 refine U5 (k := .i64) (a := a4) (b := (a0.2.length : Int)) rfl rfl rfl (Z0 ?_)
 by_cases c7 : a4 < (a0.2.length : Int)
 rw [if_pos c7] at a8
 refine Y0 (bT c7 rfl) (Y6 (Z3 (Y7 ?_)))
 obtain ⟨h1, h2, h8, k9, _, e9, c8, ⟨d0, rfl, c4⟩, f0⟩ := b2.elem (i := a4) (by omega) (by omega)
 obtain ⟨c3, f1, a8⟩ := bind_some a8
 refine V4 9 (R9 [(16, MP.eq (vQ b9 1)), (17, MP.eq (a3)), (18, MP.eq (vQ b1 1)), (19, MP.eq (s1)), (20, MP.eq (vI a4)), (21, MP.eq (Value.pointer (some ⟨h1, h2, none⟩))), (22, MP.eq (vA ([d0]))), (23, MP.rep (R.agg (X6 yT)) (c3)), (24, MP.sl (X6 yT) ([c3]))]) [] mixed rfl rfl rfl hS (Z5 rfl ?_ (Z5 rfl ?_ (Z5 rfl ?_ (Z5 rfl ?_ (Z5 rfl ?_ (Z5 rfl ?_ (Z5 rfl ?_ (Z5 rfl ?_ (Z5 rfl ?_ V9))))))))) ?_
 intro l0 l1 l2 l3 h9 hS f2 i0 hcq
 refine Y2 N5 (evT (f2 3 rfl) c0) rfl ?_
 exact qn (.refl _) rfl hS rfl
 intro l4 l5 l6 l7 i1 hS i2 f3 hcq
 refine Y4 (a3) Zd8 (eM (f3 0 16 rfl rfl)) (hS.get (mR (mR mL))) rfl rfl ?_
 exact qn (.refl _) rfl hS rfl
 intro l9 m0 m1 m2 i3 hS f4 i4 hcq
 refine Y2 N5 (evT (f4 1 rfl) b8) rfl ?_
 exact qn (.refl _) rfl hS rfl
 intro m3 m4 m5 m6 i5 hS i6 f5 hcq
 refine Y4 (s1) Zd8 (eM (f5 2 18 rfl rfl)) (hS.get (mR (mR (mR (mR mL))))) rfl rfl ?_
 exact qn (.refl _) rfl hS rfl
 intro m7 m8 m9 n0 i7 hS f6 i8 hcq
 refine Z4 (vI a4) (evT (f6 4 rfl) c1) rfl ?_
 exact qn (.refl _) rfl hS rfl
 intro n1 n2 n3 n4 i9 hS j0 d9 hcq
 refine W3 J2 rfl (eM (d9 3 19 rfl rfl)) e9 (eM (d9 4 20 rfl rfl)) (by omega) (by omega) rfl ?_
 exact qn (.refl _) rfl hS rfl
 intro n5 n6 n7 n8 f7 hS j1 f8 hcq
 have c8 := f7.1 _ _ c8
 refine V5 ([d0]) U7 (eM (f8 5 21 rfl rfl)) (hS.froz _ _ c8) rfl f0 rfl ?_
 exact qn (.refl _) rfl hS rfl
 intro n9 o0 o1 o2 f9 hS j2 g0 hcq
 have c4 := c4.mono f9
 refine Y8 Tryz.call235 (T0 (eM (g0 6 22 rfl rfl)) rfl) rfl (Yq9 f1 c4 hS) ?_
 rintro o3 o4 ⟨h3, o5, rfl, g1, hS, g2⟩
 refine ⟨h3, rfl, ?_⟩
 exact qn g1 rfl hS g2
 intro o6 o7 o8 o9 j3 hS j4 g3 hcq
 obtain ⟨j5, h4, ⟨_, rfl, ⟨e0, rfl, d3⟩⟩⟩ := gvR (g3 7 23 rfl rfl)
 refine Zn7 (τ := (X6 yT)) J2 Zb2 rfl [vA ([e0])] [c3] rfl rfl (Ze0 h4) (Zu5 ⟨_, rfl, d3⟩) (by decide) (by decide) hS rfl ?_
 intro j6 j7 j8 e3 hS e4
 exact qn e3 rfl hS e4
 intro j9 g4 e1 b7 hS c2 d1 hcq
 have hS : St e1 g4 (a5 ++ ([(b9, cA ([v7] ++ [a3]) 29)] ++ ([(b4, cA ([vN] ++ [vN]) 29)] ++ ([(b1, cA ([s0] ++ [s1]) 29)] ++ L)))) := hS
 have Z2 := Z2.trans b7
 have b6 := b6.mono b7
 have b2 := b2.mono b7
 have b3 := b3.mono b7
 have a9 := a9.mono b7
 have e2 := evT (c2 3 rfl) c0
 obtain ⟨k0, g5, e5⟩ := gvS (d1 8 24 (by decide) rfl)
 obtain ⟨e6, a8⟩ := gd a8
 refine Zd1 (τ := (X6 yT)) Yy4 rfl (by exact (eM (d1 1 17 (by decide) rfl))) (by exact g5) a9 hS e5 e6 rfl ?_
 intro c9 k1 g6 d2 hS
 refine Y2 N5 (by exact e2) rfl ?_
 have hS := hS.perm U4
 refine Ze1 (v := c9) (cs := ([v7] ++ [a3]).toArray) (cs' := ([v7] ++ [c9]).toArray) Zd8 rfl rfl hS d2.isOne rfl (Nat.le_of_ble_eq_true rfl) rfl ?_
 intro k2 hS
 have hS := hS.perm U4.symm
 refine Z0 (X2 (Z1 (Z4 (vI a4) (by exact (evT (c2 4 rfl) c1)) rfl ?_)))
 refine V0 (a4 + 1) rfl rfl (IntWalk.i64_in _ (by omega)) rfl (Z6 (vI (a4 + 1)) rfl rfl (Z0 ?_))
 exact g8 _ _ ⟨(a4 + 1), (a1 ++ [c3]), e1, g6, c9, a8, Z2, hS, (by omega), d2, b6, b2, b3, (evT (c2 1 rfl) b8), (evT (c2 2 rfl) c5), e2, rfl⟩
 rw [if_neg c7] at a8
 refine Z9 (bF c7 rfl) ?_
 refine W4 rfl ?_
 have hz := Option.some.inj a8
 subst hz
 exact g9 _ _ ⟨a1, e8, a5, a3, rfl, Z2, hS, a9, b6, b2, b3, c5, c0⟩
 exact ⟨0, ([] : List MpT), H7, ([]), (vN), a8, Z2, hS, (by omega), d6, b6, b2, b3, rfl, rfl, rfl, rfl⟩
 rintro k3 k4 ⟨a7, k5, b0, a6, rfl, Z2, hS, b5, b6, b2, b3, c6, d4⟩
 dsimp only [Ex.elim] at d8
 refine Z3 (Z1 ?_)
 refine X8 P9 (by exact d4) (hS.get (mR mL)) rfl rfl ?_
 have hS := hS.perm F3
 refine W1 (v := vA ([v7] ++ [a6])) (vs := ([v7] ++ [a6]).toArray) (cs := ([vN] ++ [vN]).toArray) P9 (by exact c6) rfl rfl hS rfl (J6 (S2 b3.isOne) (S2 b5.isOne)) rfl ?_
 intro k6 hS
 have hS := hS.perm F3.symm
 refine Z0 ?_
 refine Y9 (vs := [vA ([v7] ++ [a6])]) Tryz.func142 ⟨⟨_, (by exact c6), U8 P9 (hS.get (mR (mR mL))) rfl⟩, trivial⟩ ?_
 have hS := St.dropMid hS
 have hS := St.dropMid hS
 have hS := St.dropMid hS
 have hz := Option.some.inj d8
 subst hz
 exact ⟨_, _, _, _, rfl, Z2, hS, b3, b5⟩
end
section
open Go
def L6 (K : Nat) (a0 : (List Int)) (a1 : MpT) (r8 : Int) : Nat → Int → Option (Ex (Int × Bool) (Unit))
 | 0, _ => none
 | k + 1, a3 => (if a3 < (a1.length : Int) then ((Za6 K a0 ((rd a1 a3).1)).bind fun b6 => (if b6 = r8 then L6 K a0 a1 r8 k (a3 + 1) else some (.ret (0, false)))) else some (.go ()))
def Zg1 (K : Nat) (a0 : (List Int)) (a1 : MpT) : Option (Int × Bool) := (if (a1.length : Int) = 0 then some ((-1), true) else (if 0 < (a1.length : Int) then ((Za6 K a0 ((rd a1 0).1)).bind fun r8 => ((L6 K a0 a1 r8 K 1).bind (Ex.elim (fun r => some r) (fun s => some (r8, true))))) else none))
theorem Zx5 {K : Nat} {a0 : (List Int)} {a1 : MpT} {r : (Int × Bool)} (q0 : Zg1 K a0 a1 = some r) {H : FH} {w : World} {L : OL} {s0 : Value} {s1 : Value} (a6 : Y3 (X3 .i64) H s0 a0) (a5 : Y3 yT H s1 a1) (hS : St H w L) :
 Calls Tryz.prog 140 #[s0, vA ([s1])] w (T6 (fun v G => (R.t2 (R.int .i64) R.bool).p G v r) H L) := by
 have Z2 := Sub.refl H
 refine X0 Tryz.func140 rfl Tryz.ntmps140 rfl ?_
 unfold Zg1 at q0
 refine Z3 (Z1 ?_)
 refine T7 (v := vA ([s1])) ([s1]).toArray rfl rfl hS rfl ?_
 intro b1 w2 hS
 refine Z6 (vI 0) rfl rfl (Z6 (Value.bool false) rfl rfl (Z0 (Z3 (Z3 (Z1 (Y2 V6 rfl rfl ?_))))))
 refine Y4 (s1) R7 rfl (hS.get mL) rfl rfl ?_
 have e2 := a5.bound
 refine W6 S9 rfl a5 rfl ?_
 refine Zf2 (k := .i64) (a := (a1.length : Int)) (b := 0) rfl rfl rfl (Z0 ?_)
 by_cases b8 : (a1.length : Int) = 0
 rw [if_pos b8] at q0
 refine Y0 (bT b8 rfl) (Z3 (Z1 (Z6 (vI (-1)) rfl rfl (Z6 (Value.bool true) rfl rfl (Z0 ?_)))))
 refine Y9 (vs := [vI (-1), Value.bool true]) Tryz.func140 ⟨rfl, rfl, trivial⟩ ?_
 have hz := Option.some.inj q0
 subst hz
 exact ⟨_, _, rfl, Z2, (St.dropA hS), ⟨_, _, rfl, rfl, rfl⟩⟩
 rw [if_neg b8] at q0
 refine Z9 (bF b8 rfl) (Y6 (Z3 (Z1 (Z4 (s0) rfl rfl (Y2 V6 rfl rfl ?_)))))
 refine Y4 (s1) R7 rfl (hS.get mL) rfl rfl ?_
 obtain ⟨e3, q0⟩ := gd q0
 obtain ⟨b7, o7, e4, E7, _, c7, c8, ⟨_, _, rfl, rfl, rfl⟩, c9⟩ := a5.elem (i := 0) (by omega) (by omega)
 refine W3 S9 rfl rfl c7 rfl (by omega) (by omega) rfl (Y2 P0 rfl rfl ?_)
 refine V5 (Z7 .u8 ((rd a1 0).1)) N0 rfl (hS.froz _ _ c8) rfl (Zf0 ([]) (Z7 .u8 ((rd a1 0).1)) (([vI ((rd a1 0).2)])) c9 (Nat.le_of_ble_eq_true rfl)) rfl ?_
 obtain ⟨r8, d0, q0⟩ := bind_some q0
 refine Y8 Tryz.call216 (T0 rfl rfl) rfl (Zq9 d0 a6 hS) ?_
 rintro e8 w9 ⟨_, H8, rfl, c0, hS, rfl⟩
 refine ⟨_, rfl, ?_⟩
 have Z2 := Z2.trans c0
 have a6 := a6.mono c0
 have a5 := a5.mono c0
 refine Z6 (vI r8) rfl rfl (Z0 (Z3 (Z3 (Z1 (Z6 (vI 1) rfl rfl (Z0 (Y7 ?_)))))))
 obtain ⟨c1, a4, b2⟩ := bind_some q0
 refine W7 (id := 0) (fun k f w => ∃ (a3 : Int) (H1 : FH), L6 K a0 a1 r8 k a3 = some c1 ∧ Sub H H1 ∧ St H1 w ([(b1, cA ([s1]) 47)] ++ L) ∧ 0 ≤ a3 ∧ Y3 (X3 .i64) H1 s0 a0 ∧ Y3 yT H1 s1 a1 ∧ ev f (.tmp 0) = s0 ∧ ev f (.tmp 3) = vP b1 ∧ ev f (.tmp 6) = vI r8 ∧ ev f (.tmp 7) = vI a3) (fun f w => ∃ (H1 : FH), c1 = .go () ∧ Sub H H1 ∧ St H1 w ([(b1, cA ([s1]) 47)] ++ L) ∧ Y3 yT H1 s1 a1 ∧ ev f (.tmp 6) = vI r8) rfl ?_ ?_ K ?_ ?_
 rintro f w ⟨a3, H1, a4, _⟩
 rw [L6] at a4; cases a4
 rintro k d5 d6 d1 d2 ⟨a3, c2, a4, Z2, hS, d3, a6, a5, b0, a7, a8, a9⟩
 rw [L6] at a4
 refine Z3 (Z3 (Z1 (Z4 (vI a3) (by exact a9) rfl (Y2 V6 (by exact a7) rfl ?_))))
 refine Y4 (s1) R7 rfl (hS.get mL) rfl rfl ?_
 have d7 := a5.bound
 refine W6 S9 rfl a5 rfl ?_
 refine U5 (k := .i64) (a := a3) (b := (a1.length : Int)) rfl rfl rfl (Z0 ?_)
 by_cases b3 : a3 < (a1.length : Int)
 rw [if_pos b3] at a4
 refine Y0 (bT b3 rfl) (Y6 (Z3 (Y7 (Z3 (Z1 (Z4 (s0) (by exact b0) rfl (Y2 V6 (by exact a7) rfl ?_)))))))
 refine Y4 (s1) R7 rfl (hS.get mL) rfl rfl (Z4 (vI a3) (by exact a9) rfl ?_)
 obtain ⟨e5, e6, d8, e7, _, c3, c4, ⟨_, _, rfl, rfl, rfl⟩, c5⟩ := a5.elem (i := a3) (by omega) (by omega)
 refine W3 S9 rfl rfl c3 rfl (by omega) (by omega) rfl (Y2 P0 rfl rfl ?_)
 refine V5 (Z7 .u8 ((rd a1 a3).1)) N0 rfl (hS.froz _ _ c4) rfl (Zf0 ([]) (Z7 .u8 ((rd a1 a3).1)) (([vI ((rd a1 a3).2)])) c5 (Nat.le_of_ble_eq_true rfl)) rfl ?_
 obtain ⟨b6, c6, a4⟩ := bind_some a4
 refine Y8 Tryz.call216 (T0 rfl rfl) rfl (Zq9 c6 a6 hS) ?_
 rintro e9 f0 ⟨_, d4, rfl, b5, hS, rfl⟩
 refine ⟨_, rfl, ?_⟩
 have Z2 := Z2.trans b5
 have a6 := a6.mono b5
 have a5 := a5.mono b5
 refine Z4 (vI r8) (by exact a8) rfl ?_
 refine L9 (k := .i64) (a := b6) (b := r8) rfl rfl rfl (Z0 ?_)
 by_cases b4 : b6 = r8
 rw [if_pos b4] at a4
 refine Z9 (bN b4 rfl) (Y6 (X2 (Z1 (Z4 (vI a3) (by exact a9) rfl ?_))))
 refine V0 (a3 + 1) rfl rfl (IntWalk.i64_in _ (by omega)) rfl (Z6 (vI (a3 + 1)) rfl rfl (Z0 ?_))
 exact d1 _ _ ⟨(a3 + 1), d4, a4, Z2, hS, (by omega), a6, a5, b0, a7, a8, rfl⟩
 rw [if_neg b4] at a4
 refine Y0 (bO b4 rfl) (Z3 (Z1 (Z6 (vI 0) rfl rfl (Z6 (Value.bool false) rfl rfl (Z0 ?_)))))
 refine Y9 (vs := [vI 0, Value.bool false]) Tryz.func140 ⟨rfl, rfl, trivial⟩ ?_
 have hz := Option.some.inj a4
 subst hz
 dsimp only [Ex.elim] at b2
 have hz := Option.some.inj b2
 subst hz
 exact ⟨_, _, rfl, Z2, (St.dropA hS), ⟨_, _, rfl, rfl, rfl⟩⟩
 rw [if_neg b3] at a4
 refine Z9 (bF b3 rfl) ?_
 refine W4 rfl ?_
 have hz := Option.some.inj a4
 subst hz
 exact d2 _ _ ⟨c2, rfl, Z2, hS, a5, a8⟩
 exact ⟨1, H8, a4, Z2, hS, (by omega), a6, a5, rfl, rfl, rfl, rfl⟩
 rintro d9 e0 ⟨e1, rfl, Z2, hS, a5, b9⟩
 dsimp only [Ex.elim] at b2
 refine Z3 (Z1 (Z4 (vI r8) (by exact b9) rfl (Z6 (vI r8) rfl rfl (Z6 (Value.bool true) rfl rfl (Z0 ?_)))))
 refine Y9 (vs := [vI r8, Value.bool true]) Tryz.func140 ⟨rfl, rfl, trivial⟩ ?_
 have hz := Option.some.inj b2
 subst hz
 exact ⟨_, _, rfl, Z2, (St.dropA hS), ⟨_, _, rfl, rfl, rfl⟩⟩
end
section
open Go
def L3 (K : Nat) (a0 : A8) (a1 : Int) : Option MpT := ((Za9 K a1).bind fun r7 => (if r7 = 0 then some ([] : List (A8 × Int)) else ((Za9 K a1).bind fun a3 => some ([(a0, a3)]))))
theorem Zf5 {K : Nat} {a0 : A8} {a1 : Int} {r : MpT} (q0 : L3 K a0 a1 = some r) {H : FH} {w : World} {L : OL} (hS : St H w L) :
 Calls Tryz.prog 170 #[vA (Z7 .u8 a0), vI a1] w (T6 (fun v G => (R.agg (X6 yT)).p G v r) H L) := by
 have Z2 := Sub.refl H
 refine X0 Tryz.func170 rfl Tryz.ntmps170 rfl ?_
 unfold L3 at q0
 refine Z3 (Z1 ?_)
 refine T7 (v := vA (Z7 .u8 a0)) (Z7 .u8 a0).toArray rfl rfl hS rfl ?_
 intro b1 w2 hS
 refine W9 (z := vA ([vN])) ([vN]).toArray Zb2.zero rfl hS rfl ?_
 intro b4 w5 hS
 refine Z0 (Z3 (Z3 (Z1 (Z4 (vI a1) rfl rfl ?_))))
 obtain ⟨r7, c4, q0⟩ := bind_some q0
 refine Y8 Tryz.call217 (Q8 rfl) rfl (Zc8 c4  hS) ?_
 rintro e7 w8 ⟨_, H7, rfl, c5, hS, rfl⟩
 refine ⟨_, rfl, ?_⟩
 have Z2 := Z2.trans c5
 refine Zf2 (k := .i64) (a := r7) (b := 0) rfl rfl rfl (Z0 ?_)
 by_cases a6 : r7 = 0
 rw [if_pos a6] at q0
 refine Y0 (bT a6 rfl) (Z3 (Z1 ?_))
 refine Q2 (vA ([vN])) Yc4 rfl ?_
 refine W1 (v := vA ([vN])) (vs := ([vN]).toArray) (cs := ([vN]).toArray) U7 rfl rfl rfl hS rfl (S2 rfl) rfl ?_
 intro e9 hS
 refine Z0 ?_
 refine Y9 (vs := [vA ([vN])]) Tryz.func170 ⟨⟨_, rfl, U8 U7 (hS.get mL) rfl⟩, trivial⟩ ?_
 have hz := Option.some.inj q0
 subst hz
 exact ⟨_, _, rfl, Z2, (St.dropA (St.dropA hS)), ⟨_, rfl, ⟨_, rfl, Y3.nil⟩⟩⟩
 rw [if_neg a6] at q0
 refine Z9 (bF a6 rfl) (Y6 (Z3 ?_))
 obtain ⟨a3, b0, q0⟩ := bind_some q0
 refine V4 6 (R9 [(9, MP.eq (vA (Z7 .u8 a0))), (10, MP.eq (vI a1)), (11, MP.eq (vI a3)), (12, MP.eq (vA (Z7 .u8 a0 ++ [vI a3]))), (13, MP.sl yT ([(a0, a3)])), (14, MP.rep (R.agg (X6 yT)) ([(a0, a3)]))]) [] mixed rfl rfl rfl hS (Z5 rfl ?_ (Z5 rfl ?_ (Z5 rfl ?_ (Z5 rfl ?_ (Z5 rfl ?_ (Z5 rfl ?_ V9)))))) ?_
 intro c6 f0 f1 f2 d6 hS b2 d7 hcq
 have c7 : ev c6 (.tmp 2) = vP b1 := Eq.trans (b2 2 rfl) rfl
 refine X8 N0 c7 (hS.get (mR (mR mL))) rfl rfl ?_
 exact qn (.refl _) rfl hS rfl
 intro c8 f3 f4 f5 d8 hS b3 d9 hcq
 have c9 : ev c8 (.tmp 1) = vI a1 := Eq.trans (b3 1 rfl) rfl
 refine Z4 (vI a1) c9 rfl ?_
 exact qn (.refl _) rfl hS rfl
 intro f6 f7 f8 f9 e0 hS e1 b5 hcq
 refine Y8 Tryz.call217 (Q8 (eM (b5 1 10 rfl rfl))) rfl (Zc8 b0  hS) ?_
 rintro g0 g1 ⟨_, g2, rfl, b6, hS, rfl⟩
 refine ⟨_, rfl, ?_⟩
 exact qn b6 rfl hS rfl
 intro g3 g4 g5 g6 e2 hS e3 a7 hcq
 refine Zo9 (Z7 .u8 a0 ++ [vI a3]) Yz4 (Yd5 (eM (a7 0 9 rfl rfl)) (eM (a7 2 11 rfl rfl))) (K5 rfl rfl rfl (Nat.le_of_ble_eq_true rfl) (K5 rfl rfl rfl (Nat.le_of_ble_eq_true rfl) (Zk3 rfl))) rfl ?_
 exact qn (.refl _) rfl hS rfl
 intro g7 g8 g9 h0 e4 hS e5 b7 hcq
 refine Zn7 (τ := yT) S9 Zy1 rfl [vA (Z7 .u8 a0 ++ [vI a3])] [(a0, a3)] rfl rfl (Ze0 (eM (b7 3 12 rfl rfl))) (Zu5 ⟨_, _, rfl, rfl, rfl⟩) (by decide) (by decide) hS rfl ?_
 intro h1 h2 h3 b8 hS b9
 exact qn b8 rfl hS b9
 intro h4 h5 h6 h7 e6 hS e8 c0 hcq
 obtain ⟨d0, d1, a8⟩ := gvS (c0 4 13 rfl rfl)
 refine Zo9 ([d0]) Wm1 (Ze0 d1) (K5 rfl a8.cellsL rfl (Nat.le_of_ble_eq_true rfl) (Zk3 rfl)) rfl ?_
 exact qn (.refl _) rfl hS ⟨_, rfl, ⟨_, rfl, a8⟩⟩
 intro d2 d3 d4 c1 hS c2 c3 hcq
 have hS : St d4 d3 ([(b4, cA ([vN]) 47)] ++ ([(b1, cA (Z7 .u8 a0) 70)] ++ L)) := hS
 have Z2 := Z2.trans c1
 have a9 : ev d2 (.tmp 4) = vP b4 := Eq.trans (c2 4 rfl) rfl
 obtain ⟨h8, d5, ⟨_, rfl, ⟨a4, rfl, a5⟩⟩⟩ := gvR (c3 5 14 (by decide) rfl)
 refine W1 (v := vA ([a4])) (vs := ([a4]).toArray) (cs := ([vN]).toArray) U7 (by exact a9) (by exact d5) rfl hS rfl (S2 a5.isOne) rfl ?_
 intro h9 hS
 refine Z0 ?_
 refine Y9 (vs := [vA ([a4])]) Tryz.func170 ⟨⟨_, (by exact a9), U8 U7 (hS.get mL) rfl⟩, trivial⟩ ?_
 have hz := Option.some.inj q0
 subst hz
 exact ⟨_, _, rfl, Z2, (St.dropA (St.dropA hS)), ⟨_, rfl, ⟨_, rfl, a5⟩⟩⟩
end
section
open Go
def G3 (K : Nat) (a0 : (List MpT)) : Nat → Int → Int → Option (Ex Int (Int))
 | 0, _, _ => none
 | k + 1, a5, a3 => (if a3 < (a0.length : Int) then ((Zk7 K (rd a0 a3) a5).bind fun r4 => (if r4 < 0 then some (.ret (-1)) else G3 K a0 k r4 (a3 + 1))) else some (.go a5))
def Zj9 (K : Nat) (a0 : (List MpT)) (a1 : Int) : Option Int := ((G3 K a0 K a1 0).bind (Ex.elim (fun r => some r) (fun s => (fun (a6 : Int) => some a6) s)))
theorem Yl6 {K : Nat} {a0 : (List MpT)} {a1 : Int} {r : Int} (q0 : Zj9 K a0 a1 = some r) {H : FH} {w : World} {L : OL} {s0 : Value} (a9 : Y3 (X6 yT) H s0 a0) (hS : St H w L) :
 Calls Tryz.prog 72 #[s0, vI a1] w (T6 (fun v G => (R.int .i64).p G v r) H L) := by
 have Z2 := Sub.refl H
 refine X0 Tryz.func72 rfl Tryz.ntmps72 rfl ?_
 unfold Zj9 at q0
 refine Z3 (Z1 (Z6 (vI 0) rfl rfl (Z0 (Z3 (Z3 (Z1 (Z6 (vI 0) rfl rfl (Z0 (Y7 ?_)))))))))
 obtain ⟨b6, a4, b1⟩ := bind_some q0
 refine W7 (id := 0) (fun k f w => ∃ (a5 : Int) (a3 : Int) (H1 : FH), G3 K a0 k a5 a3 = some b6 ∧ Sub H H1 ∧ St H1 w (L) ∧ 0 ≤ a3 ∧ Y3 (X6 yT) H1 s0 a0 ∧ ev f (.tmp 0) = s0 ∧ ev f (.tmp 1) = vI a5 ∧ ev f (.tmp 5) = vI a3) (fun f w => ∃ (a6 : Int) (H1 : FH), b6 = .go a6 ∧ Sub H H1 ∧ St H1 w (L) ∧ ev f (.tmp 1) = vI a6) rfl ?_ ?_ K ?_ ?_
 rintro f w ⟨a5, a3, H1, a4, _⟩
 rw [G3] at a4; cases a4
 rintro k c8 c9 c1 c2 ⟨a5, a3, b9, a4, Z2, hS, c3, a9, a7, b0, a8⟩
 rw [G3] at a4
 refine Z3 (Z3 (Z1 (Z4 (vI a3) (by exact a8) rfl (Z4 (s0) (by exact a7) rfl ?_))))
 have d3 := a9.bound
 refine W6 J2 rfl a9 rfl ?_
 refine U5 (k := .i64) (a := a3) (b := (a0.length : Int)) rfl rfl rfl (Z0 ?_)
 by_cases b2 : a3 < (a0.length : Int)
 rw [if_pos b2] at a4
 refine Y0 (bT b2 rfl) (Y6 (Z3 (Y7 (Z3 (Z1 (Z4 (s0) (by exact a7) rfl (Z4 (vI a3) (by exact a8) rfl ?_)))))))
 obtain ⟨b3, o3, d4, E3, _, c4, c5, ⟨c0, rfl, b7⟩, c6⟩ := a9.elem (i := a3) (by omega) (by omega)
 refine W3 J2 rfl rfl c4 rfl (by omega) (by omega) rfl (Y2 V6 rfl rfl ?_)
 refine Y4 (c0) R7 rfl (hS.froz _ _ c5) (c6 0 (show 0 < 1 by decide)) rfl (Z4 (vI a5) (by exact b0) rfl ?_)
 obtain ⟨r4, c7, a4⟩ := bind_some a4
 refine Y8 Tryz.call118 (T0 rfl rfl) rfl (Yl3 c7 b7 hS) ?_
 rintro e4 w5 ⟨_, H4, rfl, b8, hS, rfl⟩
 refine ⟨_, rfl, ?_⟩
 have Z2 := Z2.trans b8
 have a9 := a9.mono b8
 refine Z6 (vI r4) rfl rfl (Z0 (Z3 (Z1 (Z4 (vI r4) rfl rfl ?_))))
 refine U5 (k := .i64) (a := r4) (b := 0) rfl rfl rfl (Z0 ?_)
 by_cases b4 : r4 < 0
 rw [if_pos b4] at a4
 refine Y0 (bT b4 rfl) (Z3 (Z1 (Z6 (vI (-1)) rfl rfl (Z0 ?_))))
 refine Y9 (vs := [vI (-1)]) Tryz.func72 ⟨rfl, trivial⟩ ?_
 have hz := Option.some.inj a4
 subst hz
 dsimp only [Ex.elim] at b1
 have hz := Option.some.inj b1
 subst hz
 exact ⟨_, _, rfl, Z2, hS, rfl⟩
 rw [if_neg b4] at a4
 refine Z9 (bF b4 rfl) (Y6 (X2 (Z1 (Z4 (vI a3) (by exact a8) rfl ?_))))
 refine V0 (a3 + 1) rfl rfl (IntWalk.i64_in _ (by omega)) rfl (Z6 (vI (a3 + 1)) rfl rfl (Z0 ?_))
 exact c1 _ _ ⟨r4, (a3 + 1), H4, a4, Z2, hS, (by omega), a9, a7, rfl, rfl⟩
 rw [if_neg b2] at a4
 refine Z9 (bF b2 rfl) ?_
 refine W4 rfl ?_
 have hz := Option.some.inj a4
 subst hz
 exact c2 _ _ ⟨a5, b9, rfl, Z2, hS, b0⟩
 exact ⟨a1, 0, H, a4, Z2, hS, (by omega), a9, rfl, rfl, rfl⟩
 rintro d0 d1 ⟨a6, d2, rfl, Z2, hS, b5⟩
 dsimp only [Ex.elim] at b1
 refine Z3 (Z1 (Z4 (vI a6) (by exact b5) rfl (Z6 (vI a6) rfl rfl (Z0 ?_))))
 refine Y9 (vs := [vI a6]) Tryz.func72 ⟨rfl, trivial⟩ ?_
 have hz := Option.some.inj b1
 subst hz
 exact ⟨_, _, rfl, Z2, hS, rfl⟩
end
section
open Go
def Zq3 (K : Nat) (a0 : (A8 × Int)) : Option (A8 × Int) := ((Zi5 K a0.1).bind fun a1 => some (a1, a0.2))
theorem Yt9 {K : Nat} {a0 : (A8 × Int)} {r : (A8 × Int)} (q0 : Zq3 K a0 = some r) {H : FH} {w : World} {L : OL} (hS : St H w L) :
 Calls Tryz.prog 200 #[vA (Z7 .u8 a0.1 ++ [vI a0.2])] w (T6 (fun v G => (R.agg yT).p (G.new H) v r) H L) := by
 have Z2 := Sub.refl H
 refine X0 Tryz.func200 rfl Tryz.ntmps200 rfl ?_
 unfold Zq3 at q0
 refine Z3 (Z1 ?_)
 refine T7 (v := vA (Z7 .u8 a0.1 ++ [vI a0.2])) (Z7 .u8 a0.1 ++ [vI a0.2]).toArray rfl rfl hS rfl ?_
 intro b1 w2 hS
 refine W9 (z := vA (Z7 .u8 (fun _ => 0) ++ [vI 0])) (Z7 .u8 (fun _ => 0) ++ [vI 0]).toArray Zy1.zero rfl hS rfl ?_
 intro b4 w5 hS
 refine Z0 (Z3 (Z1 ?_))
 refine W9 (z := vA (Z7 .u8 (fun _ => 0) ++ [vI 0])) (Z7 .u8 (fun _ => 0) ++ [vI 0]).toArray Zy1.zero rfl hS rfl ?_
 intro b7 w8 hS
 refine Z0 (Z3 (Z1 (Y2 Xw0 rfl rfl ?_)))
 refine V5 (Z7 .u8 a0.1) Wm4 rfl (hS.get (o := cA (Z7 .u8 a0.1 ++ [vI a0.2]) 236) (mR (mR mL))) rfl (fun j hj => Zj5 ([]) (Z7 .u8 a0.1) (([vI a0.2])) j hj) rfl ?_
 obtain ⟨a1, a3, q0⟩ := bind_some q0
 refine Y8 Tryz.call267 (Q8 rfl) rfl (Yk9 a3  hS) ?_
 rintro a5 a6 ⟨a7, a8, rfl, a4, hS, ⟨_, rfl, rfl⟩⟩
 refine ⟨_, rfl, ?_⟩
 have Z2 := Z2.trans a4
 refine Y2 P0 rfl rfl ?_
 refine D0 (v := vA (Z7 .u8 a1)) (cs := (Z7 .u8 (fun _ => 0) ++ [vI 0]).toArray) (cs' := (Z7 .u8 a1 ++ [vI 0]).toArray) N0 rfl rfl hS rfl (S8 .u8 a1) (Nat.le_of_ble_eq_true rfl) (by have h := Yr8 (Z7 .u8 a1) ([]) (Z7 .u8 (fun _ => 0)) (([vI 0])) rfl; simp only [List.append_assoc, List.nil_append, List.append_nil] at h ⊢; exact h) ?_
 intro a9 hS
 refine Z0 (Z3 (Z1 (Y2 Xx3 rfl rfl ?_)))
 refine Y4 (vI a0.2) ty2 rfl (hS.get (mR (mR mL))) rfl rfl (Y2 Zc0 rfl rfl ?_)
 refine D0 (v := vI a0.2) (cs := (Z7 .u8 a1 ++ [vI 0]).toArray) (cs' := (Z7 .u8 a1 ++ [vI a0.2]).toArray) ty2 rfl rfl hS rfl (Zu7 rfl) (Nat.le_of_ble_eq_true rfl) rfl ?_
 intro b0 hS
 refine Z0 (Z3 (Z1 ?_))
 refine X8 Zs8 rfl (hS.get mL) rfl rfl ?_
 have hS := hS.perm U4
 refine W1 (v := vA (Z7 .u8 a1 ++ [vI a0.2])) (vs := (Z7 .u8 a1 ++ [vI a0.2]).toArray) (cs := (Z7 .u8 (fun _ => 0) ++ [vI 0]).toArray) Zs8 rfl rfl rfl hS rfl (J6 (S8 .u8 a1) (S2 rfl)) rfl ?_
 intro b2 hS
 have hS := hS.perm U4.symm
 refine Z0 ?_
 refine Y9 (vs := [vA (Z7 .u8 a1 ++ [vI a0.2])]) Tryz.func200 ⟨⟨_, rfl, U8 Zs8 (hS.get (mR mL)) rfl⟩, trivial⟩ ?_
 have hz := Option.some.inj q0
 subst hz
 exact ⟨_, _, rfl, Z2, (St.dropA (St.dropA (St.dropA hS))), ⟨_, rfl, ⟨_, _, rfl, rfl, rfl⟩⟩⟩
end
section
open Go
def S1 (K : Nat) (a0 : (List MpT)) (a1 : (MpT → Option Bool)) : Option Bool := ((L1 K a0 a1).bind fun r1 => some (decide (0 ≤ r1)))
theorem Zb8 {K : Nat} {a0 : (List MpT)} {a1 : (MpT → Option Bool)} {r : Bool} (q0 : S1 K a0 a1 = some r) {H : FH} {w : World} {L : OL} {s0 : Value} {s1 : Value} (a3 : Y3 (X6 yT) H s0 a0) (a4 : FnQ Tryz.prog s1 (R.agg (X6 yT)) a1 H) (hS : St H w L) :
 Calls Tryz.prog 127 #[s0, s1] w (T6 (fun v G => R.bool.p G v r) H L) := by
 have Z2 := Sub.refl H
 refine X0 Tryz.func127 rfl Tryz.ntmps127 rfl ?_
 unfold S1 at q0
 refine Z3 (Z1 (Z6 (Value.bool false) rfl rfl (Z0 (Z3 (Z1 (Z4 (s0) rfl rfl (Z4 (s1) rfl rfl ?_)))))))
 obtain ⟨r1, a5, q0⟩ := bind_some q0
 refine Y8 Tryz.call222 (T0 rfl rfl) rfl (Zo3 a5 a3 a4 hS) ?_
 rintro e1 w2 ⟨_, H1, rfl, a6, hS, rfl⟩
 refine ⟨_, rfl, ?_⟩
 have Z2 := Z2.trans a6
 refine Yb5 (k := .i64) (a := r1) (b := 0) rfl rfl rfl (Z6 (Value.bool (decide (0 ≤ r1))) rfl rfl (Z0 ?_))
 refine Y9 (vs := [Value.bool (decide (0 ≤ r1))]) Tryz.func127 ⟨rfl, trivial⟩ ?_
 have hz := Option.some.inj q0
 subst hz
 exact ⟨_, _, rfl, Z2, hS, rfl⟩
end
section
open Go
def M4 (K : Nat) (a0 : (List Int)) (a1 : (Int → Option Bool)) : Option Bool := ((D8 K a0 a1).bind fun r1 => some (decide (0 ≤ r1)))
theorem Zr8 {K : Nat} {a0 : (List Int)} {a1 : (Int → Option Bool)} {r : Bool} (q0 : M4 K a0 a1 = some r) {H : FH} {w : World} {L : OL} {s0 : Value} {s1 : Value} (a3 : Y3 (X3 .i64) H s0 a0) (a4 : FnQ Tryz.prog s1 (R.int .i64) a1 H) (hS : St H w L) :
 Calls Tryz.prog 218 #[s0, s1] w (T6 (fun v G => R.bool.p G v r) H L) := by
 have Z2 := Sub.refl H
 refine X0 Tryz.func218 rfl Tryz.ntmps218 rfl ?_
 unfold M4 at q0
 refine Z3 (Z1 (Z6 (Value.bool false) rfl rfl (Z0 (Z3 (Z1 (Z4 (s0) rfl rfl (Z4 (s1) rfl rfl ?_)))))))
 obtain ⟨r1, a5, q0⟩ := bind_some q0
 refine Y8 Tryz.call263 (T0 rfl rfl) rfl (Zu1 a5 a3 a4 hS) ?_
 rintro e1 w2 ⟨_, H1, rfl, a6, hS, rfl⟩
 refine ⟨_, rfl, ?_⟩
 have Z2 := Z2.trans a6
 refine Yb5 (k := .i64) (a := r1) (b := 0) rfl rfl rfl (Z6 (Value.bool (decide (0 ≤ r1))) rfl rfl (Z0 ?_))
 refine Y9 (vs := [Value.bool (decide (0 ≤ r1))]) Tryz.func218 ⟨rfl, trivial⟩ ?_
 have hz := Option.some.inj q0
 subst hz
 exact ⟨_, _, rfl, Z2, hS, rfl⟩
end
end Go.Proofs.YtfodlhkoafhplaaGreat
