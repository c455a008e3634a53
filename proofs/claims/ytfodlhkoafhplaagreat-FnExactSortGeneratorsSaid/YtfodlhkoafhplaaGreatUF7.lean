/- Walks of functions: each computes its pure function, if that gives a value. -/
import Derived.Test.YtfodlhkoafhplaaGreatUF3
import Derived.Test.YtfodlhkoafhplaaGreatShelfP
import Derived.Test.YtfodlhkoafhplaaGreatUTy
import Derived.Test.YtfodlhkoafhplaaGreatUF2
import Derived.Test.YtfodlhkoafhplaaGreatUF1
namespace Go.Proofs.YtfodlhkoafhplaaGreat
open Go Go.Sort Go.RowKit Go.Shelf Go.Lib
set_option linter.unusedSimpArgs false
set_option linter.unusedVariables false
set_option maxRecDepth 100000
set_option maxHeartbeats 8000000
abbrev Zq7 := {a : A8 // ∀ i, 0 ≤ a i ∧ a i ≤ 2305843009213693952}
instance : Inhabited Zq7 := ⟨⟨fun _ => 0, fun _ => by simp⟩⟩
def Yo8 (a b : A8) : Int :=
 if a 0 = b 0 then if a 1 = b 1 then if a 2 = b 2 then if a 3 = b 3 then if a 4 = b 4 then if a 5 = b 5 then if a 6 = b 6 then if a 7 = b 7 then 0
  else IntKind.i64.wrap (b 7 - a 7) else IntKind.i64.wrap (b 6 - a 6) else IntKind.i64.wrap (b 5 - a 5) else IntKind.i64.wrap (b 4 - a 4) else IntKind.i64.wrap (b 3 - a 3)
  else IntKind.i64.wrap (b 2 - a 2) else IntKind.i64.wrap (b 1 - a 1) else IntKind.i64.wrap (b 0 - a 0)
theorem Wa3 (a b : A8) : F2 9 a b = some (Yo8 a b) := by
 have e : ∀ (m : A8) (j : Nat) (h : j < 8), Y5 m (j : Int) = m ⟨j, h⟩ := fun m j h => by unfold Y5; simp [h]
 have e0 := fun m => e m 0 (by decide)
 have e1 := fun m => e m 1 (by decide)
 have e2 := fun m => e m 2 (by decide)
 have e3 := fun m => e m 3 (by decide)
 have e4 := fun m => e m 4 (by decide)
 have e5 := fun m => e m 5 (by decide)
 have e6 := fun m => e m 6 (by decide)
 have e7 := fun m => e m 7 (by decide)
 simp only [Int.ofNat_zero, Int.natCast_one, Int.cast_ofNat_Int] at e0 e1 e2 e3 e4 e5 e6 e7
 unfold F2 Yo8
 have z : ∀ (j k : Int), j + 1 = k → j + 1 = k := fun _ _ h => h
 simp only [Q7, show (0 : Int) + 1 = 1 from rfl, show (1 : Int) + 1 = 2 from rfl, show (2 : Int) + 1 = 3 from rfl, show (3 : Int) + 1 = 4 from rfl, show (4 : Int) + 1 = 5 from rfl, show (5 : Int) + 1 = 6 from rfl,
  show (6 : Int) + 1 = 7 from rfl, show (7 : Int) + 1 = 8 from rfl, show (0 : Int) < 8 from by decide, show (1 : Int) < 8 from by decide, show (2 : Int) < 8 from by decide, show (3 : Int) < 8 from by decide, show (4 : Int) < 8 from by decide,
  show (5 : Int) < 8 from by decide, show (6 : Int) < 8 from by decide, show (7 : Int) < 8 from by decide, show ¬ (8 : Int) < 8 from by decide, if_true, if_false, e0, e1, e2, e3, e4, e5, e6, e7]
 simp only [show (⟨0, by decide⟩ : Fin 8) = 0 from rfl, show (⟨1, by decide⟩ : Fin 8) = 1 from rfl, show (⟨2, by decide⟩ : Fin 8) = 2 from rfl, show (⟨3, by decide⟩ : Fin 8) = 3 from rfl, show (⟨4, by decide⟩ : Fin 8) = 4 from rfl,
  show (⟨5, by decide⟩ : Fin 8) = 5 from rfl, show (⟨6, by decide⟩ : Fin 8) = 6 from rfl, show (⟨7, by decide⟩ : Fin 8) = 7 from rfl]
 by_cases h0 : a 0 = b 0
 by_cases h1 : a 1 = b 1
 by_cases h2 : a 2 = b 2
 by_cases h3 : a 3 = b 3
 by_cases h4 : a 4 = b 4
 by_cases h5 : a 5 = b 5
 by_cases h6 : a 6 = b 6
 by_cases h7 : a 7 = b 7
 simp [h0, h1, h2, h3, h4, h5, h6, h7, Ex.elim]
 simp [h0, h1, h2, h3, h4, h5, h6, h7, Ex.elim]
 simp [h0, h1, h2, h3, h4, h5, h6, Ex.elim]
 simp [h0, h1, h2, h3, h4, h5, Ex.elim]
 simp [h0, h1, h2, h3, h4, Ex.elim]
 simp [h0, h1, h2, h3, Ex.elim]
 simp [h0, h1, h2, Ex.elim]
 simp [h0, h1, Ex.elim]
 simp [h0, Ex.elim]
theorem Xw1 {x y : Int} (hx : 0 ≤ x ∧ x ≤ 2305843009213693952) (hy : 0 ≤ y ∧ y ≤ 2305843009213693952) : decide (IntKind.i64.wrap (y - x) < 0) = decide (y < x) := by
 rw [IntWalk.i64_in _ (by omega)]
 simp only [decide_eq_decide]
 omega
theorem Ys8 (x y : Zq7) : ltOf (fun x y : Zq7 => Yo8 x.1 y.1) x y = bef x.1 y.1 := by
 unfold ltOf Yo8 bef l8
 have hw : ∀ i, decide (IntKind.i64.wrap (y.1 i - x.1 i) < 0) = decide (y.1 i < x.1 i) := fun i => Xw1 (x.2 i) (y.2 i)
 simp only [Zf4]
 by_cases h0 : x.1 0 = y.1 0
 by_cases h1 : x.1 1 = y.1 1
 by_cases h2 : x.1 2 = y.1 2
 by_cases h3 : x.1 3 = y.1 3
 by_cases h4 : x.1 4 = y.1 4
 by_cases h5 : x.1 5 = y.1 5
 by_cases h6 : x.1 6 = y.1 6
 by_cases h7 : x.1 7 = y.1 7
 simp [h0, h1, h2, h3, h4, h5, h6, h7]
 simp only [h0, h1, h2, h3, h4, h5, h6, if_true, if_neg h7]; exact hw 7
 simp only [h0, h1, h2, h3, h4, h5, if_true, if_neg h6]; exact hw 6
 simp only [h0, h1, h2, h3, h4, if_true, if_neg h5]; exact hw 5
 simp only [h0, h1, h2, h3, if_true, if_neg h4]; exact hw 4
 simp only [h0, h1, h2, if_true, if_neg h3]; exact hw 3
 simp only [h0, h1, if_true, if_neg h2]; exact hw 2
 simp only [h0, if_true, if_neg h1]; exact hw 1
 simp only [if_neg h0]; exact hw 0
theorem We4 : SWO (ltOf fun x y : Zq7 => Yo8 x.1 y.1) where
 irrefl x := by rw [Ys8]; exact Zt3 _
 trans x y z h1 h2 := by rw [Ys8] at *; exact Zl9 h1 h2
 ntrans x y z h1 h2 := by
  rw [Ys8] at *
  cases h : bef x.1 z.1 with
  | false => rfl
  | true =>
   by_cases exy : x.1 = y.1
   rw [exy] at h; rw [h] at h2; cases h2
   have hyx : bef y.1 x.1 = true := (Zw2 exy).resolve_left (by rw [h1]; simp)
   rw [Zl9 hyx h] at h2; cases h2
/-- a world in which all is frozen; what comes behind it -/
def FH.all (W : World) : FH := ⟨fun b => W.heap[b]?, fun _ => none, some (W.tape, W.os, W.output, W.drawn, W.heap.size)⟩
theorem St.all (W : World) : St (FH.all W) W [] := ⟨fun _ _ h => h, fun _ _ h => (by cases h), fun t h => (by cases h; exact ⟨rfl, rfl, rfl, Nat.le_refl _⟩), fun b o h hl => (by
 have h : W.heap[b]? = some o := h
 have hl : W.heap.size ≤ b := hl
 rw [Array.getElem?_eq_none hl] at h; cases h), fun _ h => (by cases h), List.nodup_nil, fun _ h => (by cases h)⟩
theorem Xf4 {W w' : World} {H' : FH} (hs : Sub (FH.all W) H') (hS : St H' w' []) : ∃ q os, w' = grow (W.drewN q) os := by
 obtain ⟨h1, h2, h3, h4⟩ := hS.rest _ (hs.2.2.trans rfl)
 have hsz : W.heap.size ≤ w'.heap.size := by
  by_cases h0 : W.heap.size = 0
  omega
  have hl : W.heap[W.heap.size - 1]? = some W.heap[W.heap.size - 1] := by simp
  have := Za2 (hS.froz _ _ (hs.1 _ _ hl))
  omega
 refine ⟨w'.drawn - W.drawn, w'.heap.extract W.heap.size w'.heap.size, ?_⟩
 have hh : w'.heap = W.heap ++ w'.heap.extract W.heap.size w'.heap.size := by
  apply Array.ext_getElem?
  intro i
  rw [Array.getElem?_append]
  split
  rename_i hi
  have hl : W.heap[i]? = some W.heap[i] := by simp [hi]
  rw [hl]
  exact hS.froz _ _ (hs.1 _ _ hl)
  rename_i hi
  rw [Array.getElem?_extract]
  by_cases hi2 : i < w'.heap.size
  rw [if_pos (by omega)]
  congr 1; omega
  rw [if_neg (by omega)]
  simp; omega
 obtain ⟨hp, tp, dr, os, out⟩ := w'
 simp only at h1 h2 h3 h4 hh hsz ⊢
 unfold grow World.drewN
 simp only
 congr 1
 omega
theorem Wc0 (blk off size : Nat) (w : World) : CmpLays Tryz.prog 221 #[] (fun x : Zq7 => Z7 .i64 x.1) 8 (fun x y => Yo8 x.1 y.1) blk off size w := by
 intro m os dk hd x y
 have h := Zq2 (Wa3 x.1 y.1) (St.all (sortWorldK (fun x : Zq7 => Z7 .i64 x.1) 8 w blk off m dk os))
 refine h.mono ?_
 rintro e w' ⟨v, H', rfl, hs, hS, hv⟩
 exact ⟨congrArg Ending.returned hv, Xf4 hs hS⟩
theorem St.ahead {H : FH} {w : World} {L : OL} (h : St H w L) (n : Nat) : St H (Sort.ahead w n) L :=
 ⟨h.froz, h.memo, fun t ht => (let ⟨a, b, c, d⟩ := h.rest t ht; ⟨a, b, c, Nat.le_trans d (Nat.le_add_right _ _)⟩), h.nofz, h.own, h.nodup, h.apart⟩
theorem St.grown {H : FH} {w : World} {L : OL} (h : St H w L) (os : Array Obj) : St H (grow w os) L := by
 have hlt : ∀ b o', w.heap[b]? = some o' → (grow w os).heap[b]? = some o' := fun b o' hb => by
  have := Za2 hb
  show (w.heap ++ os)[b]? = some o'
  rw [Array.getElem?_append_left this]; exact hb
 exact ⟨fun b o hb => hlt b o (h.froz b o hb), fun b I hb => (let ⟨h1, h2, o, h3, h4⟩ := h.memo b I hb; ⟨h1, h2, o, hlt _ _ h3, h4⟩), h.rest, h.nofz, fun x hx => hlt _ _ (h.own x hx), h.nodup, h.apart⟩
theorem St.mapBlock {H : FH} {w : World} {L : OL} {b : Nat} {cs : Array Value} {E : TypeId} (h : St H w ([(b, .cells cs E)] ++ L)) (f : Array Value → Array Value) : St H (Sort.mapBlock w b f) ([(b, .cells (f cs) E)] ++ L) := by
 have hw : w.heap[b]? = some (.cells cs E) := St.hd h
 have e : Sort.mapBlock w b f = { w with heap := w.heap.setIfInBounds b (.cells (f cs) E) } := by
  unfold Sort.mapBlock
  congr 1
  apply Array.ext_getElem?
  intro k
  rw [Array.getElem?_modify, Array.getElem?_setIfInBounds]
  by_cases hk : b = k
  subst hk
  have := Za2 hw
  rw [hw]
  simp [this, onCells]
  simp [hk]
 rw [e]
 exact St.put h _
theorem Xz5 {xs : List A8} (hb : ∀ a, a ∈ xs → ∀ i, 0 ≤ a i ∧ a i ≤ 2305843009213693952) : ∃ ks : List Zq7, ks.map Subtype.val = xs := by
 induction xs with
 | nil => exact ⟨[], rfl⟩
 | cons a xs ih =>
  obtain ⟨ks, rfl⟩ := ih (fun b h => hb b (List.mem_cons_of_mem _ h))
  exact ⟨⟨a, hb a (List.mem_cons_self ..)⟩ :: ks, rfl⟩
theorem Xs5 (ks : List Zq7) (t : Nat) (h : t < ks.length * 8) : (flatK (fun x : Zq7 => Z7 .i64 x.1) 8 ks.toArray)[t]! = (Z7 .i64 (ks[t / 8]!).1)[t % 8]! := by
 rw [get_flatK _ _ _ _ (by simpa using h)]
 simp
theorem Wa2 {H : FH} {w : World} {L : OL} {b c : Nat} {cs : Array Value} {xs : List A8} (hl : xs.length ≤ c) (hc : c ≤ maxLen) (hcs : cs.size = c * 8)
 (hx : ∀ i x, xs[i]? = some x → ∀ j, j < 8 → cs[i * 8 + j]? = (Z7 .i64 x)[j]?) (hS : St H w ([(b, .cells cs 188)] ++ L))
 (hb : ∀ a, a ∈ xs → ∀ i, 0 ≤ a i ∧ a i ≤ 2305843009213693952) (hlen : xs.length ≤ 1099511627776) (hnd : xs.Nodup) :
 Calls Tryz.prog 253 #[.slice (some ⟨b, 0, none⟩) xs.length c, .func (.func 221) #[] #[]] w (fun e w' => e = .returned (.tuple #[]) ∧ ∃ ys C', ys.Perm xs ∧ ys.Pairwise (fun p q => bef p q = true) ∧ St H w' (C' ++ L) ∧
  V1 (Zl2 .i64) 188 H (.slice (some ⟨b, 0, none⟩) xs.length c) ys C') := by
 obtain ⟨ks, rfl⟩ := Xz5 hb
 have hw : w.heap[b]? = some (.cells cs 188) := St.hd hS
 have hget : ∀ (t : Nat), t < ks.length * 8 → cs[t]? = some ((flatK (fun x : Zq7 => Z7 .i64 x.1) 8 ks.toArray)[t]!) := by
  intro t ht
  have h8 : t / 8 < ks.length := by omega
  have := hx (t / 8) (ks[t / 8]).1 (by simp [h8]) (t % 8) (Nat.mod_lt _ (by decide))
  rw [show t / 8 * 8 + t % 8 = t by omega] at this
  rw [this, Xs5 ks t ht]
  have he : (Z7 .i64 (ks[t / 8]).1).length = 8 := rfl
  have h9 : t % 8 < (Z7 .i64 (ks[t / 8]).1).length := by rw [he]; exact Nat.mod_lt _ (by decide)
  rw [getElem!_pos ks _ h8, List.getElem?_eq_getElem h9, getElem!_pos (Z7 .i64 (ks[t / 8]).1) _ h9]
 have hH : HoldsK (fun x : Zq7 => Z7 .i64 x.1) 8 w b 0 ks.toArray := by
  intro j hj
  rw [size_flatK] at hj
  have hj' : j < ks.length * 8 := by simpa using hj
  refine ⟨?_, ?_⟩
  rw [World.cell?, hw]
  simp only [Nat.zero_add]
  rw [hget j hj']; rfl
  simp [World.frozen?, hw]
 have hcall := AnyQ.slices_SortFunc Tryz.sortP 8 Tryz.isAgg188 Tryz.sizeOf188 (fun x : Zq7 => Z7 .i64 x.1) (fun _ => rfl) (fun x v hv => S4 _ _ v hv) (fun x y => Yo8 x.1 y.1) We4 221 #[] b 0 c ks.toArray w Tryz.call221
  (Wc0 b 0 ks.toArray.size w) hH (Za2 hw) (by simp at hlen ⊢; omega)
 change Calls Tryz.prog 253 _ _ _ at hcall
 simp only [List.size_toArray, List.length_map] at hcall ⊢
 refine hcall.mono ?_
 rintro e w' ⟨rfl, d', n, os, hp, hs, rfl⟩
 have hsz : d'.size = ks.length := by have := hp.1; simpa using this
 have hperm : d'.toList.Perm ks := by
  have := hp.2.2
  rw [Array.extract_eq_self_of_le (by omega), Array.extract_eq_self_of_le (by simp)] at this
  simpa using this
 have hF : (flatK (fun x : Zq7 => Z7 .i64 x.1) 8 d').size = ks.length * 8 := by rw [size_flatK, hsz]
 refine ⟨rfl, d'.toList.map Subtype.val, [(b, .cells (putCells id 0 (flatK (fun x : Zq7 => Z7 .i64 x.1) 8 d') cs) 188)], hperm.map _, ?_, ?_, .inr ⟨b, c, _, ?_, ?_, hc, ?_, rfl, ?_⟩⟩
 rw [List.pairwise_map, List.pairwise_iff_getElem]
 intro i j hi hj hij
 have hi' : i < d'.size := by simpa using hi
 have hj' : j < d'.size := by simpa using hj
 have := hs i j (Nat.zero_le _) hij (by simp at hj ⊢; omega)
 rw [Ys8, getElem!_pos d' j hj', getElem!_pos d' i hi'] at this
 simp only [Array.getElem_toList]
 refine (Zw2 ?_).resolve_right (by rw [this]; simp)
 intro e
 have hnd' : (d'.toList.map Subtype.val).Nodup := (hperm.map _).nodup_iff.2 hnd
 have := (List.nodup_iff_pairwise_ne.1 hnd')
 rw [List.pairwise_map, List.pairwise_iff_getElem] at this
 exact this i j hi hj hij (by simpa using e)
 have h1 := (hS.ahead n).mapBlock (putCells id 0 (flatK (fun x : Zq7 => Z7 .i64 x.1) 8 d'))
 exact h1.grown os
 simp [hsz]
 simp [hsz]; simpa using hl
 simp only [putCells, Array.size_mapIdx]
 exact hcs
 intro i x hix
 refine ⟨_, rfl, fun j hj => ?_⟩
 have hj : j < 8 := hj
 have hi : i < d'.size := by
  rcases Nat.lt_or_ge i d'.size with h | h
  exact h
  rw [List.getElem?_eq_none (by simpa using h)] at hix; cases hix
 have hxv : x = d'[i].1 := by
  rw [List.getElem?_map] at hix
  simp [hi] at hix
  exact hix.symm
 subst hxv
 show (putCells id 0 (flatK (fun x : Zq7 => Z7 .i64 x.1) 8 d') cs)[i * 8 + j]? = _
 have ht : i * 8 + j < ks.length * 8 := by omega
 have hcl : i * 8 + j < cs.size := by rw [hcs]; simp at hl; omega
 simp only [putCells, Array.getElem?_mapIdx]
 rw [Array.getElem?_eq_getElem hcl]
 simp only [Option.map_some]
 rw [if_pos (by rw [hF]; omega), Nat.sub_zero, get_flatK _ _ _ _ (by rw [hsz]; exact ht)]
 rw [show (i * 8 + j) / 8 = i by omega, show (i * 8 + j) % 8 = j by omega, getElem!_pos d' _ hi]
 have h9 : j < (Z7 .i64 d'[i].1).length := hj
 rw [getElem!_pos (Z7 .i64 d'[i].1) j h9, List.getElem?_eq_getElem h9]; rfl
section
open Go
def Ze8 (K : Nat) (e2 : Int → Int → Option (Ex (Int × Bool) (Int))) (a6 : Int) (a3 : Int) (a7 : Bool) : Option (Ex (Int × Bool) (Int)) := (if a7 = true then some (.ret (0, false)) else e2 a6 (a3 + 1))
def T8 (K : Nat) (a0 : (List Int)) (a1 : MpT) : Nat → Int → Int → Option (Ex (Int × Bool) (Int))
 | 0, _, _ => none
 | k + 1, a4, a3 => (if a3 < (a1.length : Int) then ((Zb4 K ((rd a1 a3).1)).bind fun d5 => ((Zd8 K d5 a0).bind fun a6 => (if 0 ≤ a4 then Ze8 K (T8 K a0 a1 k) a6 a3 (!decide (a6 = a4)) else Ze8 K (T8 K a0 a1 k) a6 a3 false))) else some (.go a4))
def Zn9 (K : Nat) (a0 : (List Int)) (a1 : MpT) : Option (Int × Bool) := ((T8 K a0 a1 K (-1) 0).bind (Ex.elim (fun r => some r) (fun s => (fun (b2 : Int) => some (b2, true)) s)))
theorem Yk6 {K : Nat} {a0 : (List Int)} {a1 : MpT} {r : (Int × Bool)} (q0 : Zn9 K a0 a1 = some r) {H : FH} {w : World} {L : OL} {s0 : Value} {s1 : Value} (b3 : Y2 (Y8 .i64) H s0 a0) (a8 : Y2 yT H s1 a1) (hS : St H w L) :
 Calls Tryz.prog 130 #[s0, vA ([s1])] w (S3 (fun v G => (R.t2 (R.int .i64) R.bool).p G v r) H L) := by
 have Z2 := Sub.refl H
 refine X2 Tryz.func130 rfl Tryz.ntmps130 rfl ?_
 unfold Zn9 at q0
 refine Z3 (Z1 ?_)
 refine S5 (v := vA ([s1])) ([s1]).toArray rfl rfl hS rfl ?_
 intro b1 w2 hS
 refine Z5 (vI 0) rfl rfl (Z5 (Value.bool false) rfl rfl (Z0 (Z3 (Z1 (Z5 (vI (-1)) rfl rfl (Z0 (Z3 (Z3 (Z1 (Y3 U4 rfl rfl ?_))))))))))
 refine Y4 (s1) Q1 rfl (hS.get mL) rfl rfl ?_
 have f4 := a8.bound
 refine W6 R2 rfl a8 rfl (Z4 (vI 0) rfl rfl (Z0 (Y7 ?_)))
 obtain ⟨c4, a5, c2⟩ := bind_some q0
 refine W7 (id := 0) (fun k f w => ∃ (a4 : Int) (a3 : Int) (H1 : FH), T8 K a0 a1 k a4 a3 = some c4 ∧ Sub H H1 ∧ St H1 w ([(b1, cA ([s1]) 47)] ++ L) ∧ 0 ≤ a3 ∧ Y2 (Y8 .i64) H1 s0 a0 ∧ Y2 yT H1 s1 a1 ∧ ev f (.tmp 0) = s0 ∧ ev f (.tmp 6) = vI a4 ∧ ev f (.tmp 11) = s1 ∧ ev f (.tmp 12) = vI (a1.length : Int) ∧ ev f (.tmp 13) = vI a3) (fun f w => ∃ (b2 : Int) (H1 : FH), c4 = .go b2 ∧ Sub H H1 ∧ St H1 w ([(b1, cA ([s1]) 47)] ++ L) ∧ Y2 yT H1 s1 a1 ∧ ev f (.tmp 6) = vI b2) rfl ?_ ?_ K ?_ ?_
 rintro f w ⟨a4, a3, H1, a5, _⟩
 rw [T8] at a5; cases a5
 rintro k e9 f0 e3 e4 ⟨a4, a3, d8, a5, Z2, hS, e1, b3, a8, b9, c0, b4, b5, b0⟩
 rw [T8] at a5
 refine Z3 (Z1 ?_)
 refine U2 (k := .i64) (a := a3) (b := (a1.length : Int)) (by exact b0) (by exact b5) rfl (Z0 (Z3 ?_))
 by_cases c7 : a3 < (a1.length : Int)
 rw [if_pos c7] at a5
 refine Y0 (bT c7 rfl) (Y6 (Z3 (Y7 (Z3 (Z1 ?_)))))
 obtain ⟨b6, o6, f5, E6, _, e5, e6, ⟨_, _, rfl, rfl, rfl⟩, e7⟩ := a8.elem (i := a3) (by omega) (by omega)
 refine W3 R2 rfl (by exact b4) e5 (by exact b0) (by omega) (by omega) rfl ?_
 refine V4 (Z7 .u8 ((rd a1 a3).1) ++ [vI ((rd a1 a3).2)]) Zq4 rfl (hS.froz _ _ e6) rfl e7 rfl ?_
 refine V0 (z := vA (Z7 .u8 (fun _ => 0) ++ [vI 0])) (Z7 .u8 (fun _ => 0) ++ [vI 0]).toArray Zw6.zero rfl hS rfl ?_
 intro b7 w8 hS
 refine X8 (v := vA (Z7 .u8 ((rd a1 a3).1) ++ [vI ((rd a1 a3).2)])) (vs := (Z7 .u8 ((rd a1 a3).1) ++ [vI ((rd a1 a3).2)]).toArray) (cs := (Z7 .u8 (fun _ => 0) ++ [vI 0]).toArray) Zq4 rfl rfl rfl hS rfl (L8 (S4 .u8 ((rd a1 a3).1)) (S2 rfl)) rfl ?_
 intro f6 hS
 refine Z0 (Z3 (Z1 (Y3 N2 rfl rfl ?_)))
 refine V4 (Z7 .u8 ((rd a1 a3).1)) P9 rfl (hS.get (o := cA (Z7 .u8 ((rd a1 a3).1) ++ [vI ((rd a1 a3).2)]) 76) mL) rfl (fun j hj => Zg5 ([]) (Z7 .u8 ((rd a1 a3).1)) (([vI ((rd a1 a3).2)])) j hj) rfl ?_
 obtain ⟨d5, d9, a5⟩ := bind_some a5
 refine X0 Tryz.call176 (M0 rfl) rfl (Zk5 d9  hS) ?_
 rintro f7 f8 ⟨f9, g0, rfl, c5, hS, ⟨_, rfl, rfl⟩⟩
 refine ⟨_, rfl, ?_⟩
 have Z2 := Z2.trans c5
 have b3 := b3.mono c5
 have a8 := a8.mono c5
 refine Z4 (s0) (by exact b9) rfl ?_
 obtain ⟨a6, e0, a5⟩ := bind_some a5
 refine X0 Tryz.call223 (T0 rfl rfl) rfl (Yc4 e0 b3 hS) ?_
 rintro g1 g2 ⟨_, d6, rfl, c6, hS, rfl⟩
 refine ⟨_, rfl, ?_⟩
 have Z2 := Z2.trans c6
 have b3 := b3.mono c6
 have a8 := a8.mono c6
 refine Z5 (vI a6) rfl rfl (Z0 (Z3 (Z3 ?_)))
 refine Za3 (fun f w => ∃ (a7 : Bool) (H1 : FH), Ze8 K (T8 K a0 a1 k) a6 a3 a7 = some c4 ∧ Sub H H1 ∧ St H1 w ([(b7, cA (Z7 .u8 ((rd a1 a3).1) ++ [vI ((rd a1 a3).2)]) 76)] ++ ([(b1, cA ([s1]) 47)] ++ L)) ∧ Y2 (Y8 .i64) H1 s0 a0 ∧ Y2 yT H1 s1 a1 ∧ ev f (.tmp 0) = s0 ∧ ev f (.tmp 9) = vI a6 ∧ ev f (.tmp 11) = s1 ∧ ev f (.tmp 12) = vI (a1.length : Int) ∧ ev f (.tmp 13) = vI a3 ∧ ev f (.tmp 28) = Value.bool a7) ?_ ?_
 rintro g3 e8 ⟨a7, d4, b8, Z2, hS, b3, a8, d2, d3, c8, c9, d0, c1⟩
 unfold Ze8 at b8
 by_cases c3 : a7 = true
 rw [if_pos c3] at b8
 refine Y0 (Eq.trans (by exact c1) (congrArg Value.bool c3)) (Z3 (Z1 (Z5 (vI 0) rfl rfl (Z5 (Value.bool false) rfl rfl (Z0 ?_)))))
 refine Y9 (vs := [vI 0, Value.bool false]) Tryz.func130 ⟨rfl, rfl, trivial⟩ ?_
 have hz := Option.some.inj b8
 subst hz
 dsimp only [Ex.elim] at c2
 have hz := Option.some.inj c2
 subst hz
 exact ⟨_, _, rfl, Z2, (St.dropA (St.dropA hS)), ⟨_, _, rfl, rfl, rfl⟩⟩
 rw [if_neg c3] at b8
 refine Z9 (Eq.trans (by exact c1) (congrArg Value.bool (W2 c3))) (Y6 (Z1 (Z4 (vI a6) (by exact d3) rfl (Z5 (vI a6) rfl rfl (Z0 (X3 (Z1 ?_)))))))
 refine W8 (a3 + 1) (by exact d0) rfl (IntWalk.i64_in _ (by omega)) rfl (Z4 (vI (a3 + 1)) rfl rfl (Z0 ?_))
 have hS := St.dropA hS
 exact e3 _ _ ⟨a6, (a3 + 1), d4, b8, Z2, hS, (by omega), b3, a8, d2, rfl, c8, c9, rfl⟩
 intro d7
 refine Z1 (Z4 (vI a4) (by exact c0) rfl ?_)
 refine Yb1 (k := .i64) (a := a4) (b := 0) rfl rfl rfl (Z4 (Value.bool (decide (0 ≤ a4))) rfl rfl ?_)
 by_cases a9 : 0 ≤ a4
 rw [if_pos a9] at a5
 refine Y1 rfl rfl (bT a9 rfl) (Z4 (vI a6) rfl rfl ?_)
 refine Y1 rfl rfl (bT a9 rfl) (Z4 (vI a4) (by exact c0) rfl ?_)
 refine Y1 rfl rfl (bT a9 rfl) ?_
 refine K9 (k := .i64) (a := a6) (b := a4) rfl rfl rfl ?_
 refine V2 (t := true) (Value.bool (!decide (a6 = a4))) (bT a9 rfl) ((if_pos rfl).trans rfl) rfl (Z0 ?_)
 exact d7 _ _ ⟨(!decide (a6 = a4)), d6, a5, Z2, hS, b3, a8, b9, rfl, b4, b5, b0, rfl⟩
 rw [if_neg a9] at a5
 refine Z8 rfl rfl (bF a9 rfl) rfl rfl rfl (Z8 rfl rfl (bF a9 rfl) rfl rfl rfl (Z8 rfl rfl (bF a9 rfl) rfl rfl rfl ?_))
 refine V2 (t := false) (Value.bool false) (bF a9 rfl) ((if_neg Bool.false_ne_true).trans rfl) rfl (Z0 ?_)
 exact d7 _ _ ⟨false, d6, a5, Z2, hS, b3, a8, b9, rfl, b4, b5, b0, rfl⟩
 rw [if_neg c7] at a5
 refine Z9 (bF c7 rfl) ?_
 refine W4 rfl ?_
 have hz := Option.some.inj a5
 subst hz
 exact e4 _ _ ⟨a4, d8, rfl, Z2, hS, a8, c0⟩
 exact ⟨(-1), 0, H, a5, Z2, hS, (by omega), b3, a8, rfl, rfl, rfl, rfl, rfl⟩
 rintro f1 f2 ⟨b2, f3, rfl, Z2, hS, a8, d1⟩
 dsimp only [Ex.elim] at c2
 refine Z3 (Z1 (Z4 (vI b2) (by exact d1) rfl (Z5 (vI b2) rfl rfl (Z5 (Value.bool true) rfl rfl (Z0 ?_)))))
 refine Y9 (vs := [vI b2, Value.bool true]) Tryz.func130 ⟨rfl, rfl, trivial⟩ ?_
 have hz := Option.some.inj c2
 subst hz
 exact ⟨_, _, rfl, Z2, (St.dropA hS), ⟨_, _, rfl, rfl, rfl⟩⟩
end
section
open Go
def Za0 (K : Nat) (a0 : MpT) : Nat → Int → MpT → Option (Ex MpT (MpT))
 | 0, _, _ => none
 | k + 1, a1, a3 => (if a1 < (a0.length : Int) then ((Zb4 K ((rd a0 a1).1)).bind fun b7 => Za0 K a0 k (a1 + 1) (D5 a3 b7 ((rd a0 a1).2))) else some (.go a3))
def Zh8 (K : Nat) (a0 : MpT) : Option MpT := ((Za0 K a0 K 0 ([] : MpT)).bind (Ex.elim (fun r => some r) (fun s => (fun (a7 : MpT) => some a7) s)))
theorem Zt0 {K : Nat} {a0 : MpT} {r : MpT} (q0 : Zh8 K a0 = some r) {H : FH} {w : World} {L : OL} {s0 : Value} (a8 : Y2 yT H s0 a0) (hS : St H w L) :
 Calls Tryz.prog 90 #[vA ([s0])] w (Yl2 .i64 r H L) := by
 have Z2 := Sub.refl H
 refine X2 Tryz.func90 rfl Tryz.ntmps90 rfl ?_
 unfold Zh8 at q0
 refine Z3 (Z1 ?_)
 refine S5 (v := vA ([s0])) ([s0]).toArray rfl rfl hS rfl ?_
 intro b1 w2 hS
 refine Z5 (Value.map none) rfl rfl (Z0 (Z3 (Z1 ?_)))
 refine Zo6 (k := .i64) hS rfl ?_
 intro m4 w5 C6 e0 hS
 refine Z5 (m4) rfl rfl (Z0 (Z3 (Z3 (Z1 (Y3 U4 rfl rfl ?_)))))
 refine Y4 (s0) Q1 rfl (hS.get (mR mL)) rfl rfl ?_
 have g7 := a8.bound
 refine W6 R2 rfl a8 rfl (Z4 (vI 0) rfl rfl (Z0 (Y7 ?_)))
 obtain ⟨c3, a5, c4⟩ := bind_some q0
 refine W7 (id := 0) (fun k f w => ∃ (a1 : Int) (a3 : MpT) (H1 : FH) (a4 : OL), Za0 K a0 k a1 a3 = some c3 ∧ Sub H H1 ∧ St H1 w (a4 ++ ([(b1, cA ([s0]) 47)] ++ L)) ∧ 0 ≤ a1 ∧ R9 .i64 m4 a3 a4 ∧ Y2 yT H1 s0 a0 ∧ ev f (.tmp 3) = m4 ∧ ev f (.tmp 8) = s0 ∧ ev f (.tmp 9) = vI (a0.length : Int) ∧ ev f (.tmp 10) = vI a1) (fun f w => ∃ (a7 : MpT) (H1 : FH) (a9 : OL), c3 = .go a7 ∧ Sub H H1 ∧ St H1 w (a9 ++ ([(b1, cA ([s0]) 47)] ++ L)) ∧ R9 .i64 m4 a7 a9 ∧ Y2 yT H1 s0 a0 ∧ ev f (.tmp 3) = m4) rfl ?_ ?_ K ?_ ?_
 rintro f w ⟨a1, a3, H1, a4, a5, _⟩
 rw [Za0] at a5; cases a5
 rintro k e9 f0 e1 e2 ⟨a1, a3, c6, a4, a5, Z2, hS, d9, a6, a8, b2, b3, b4, b0⟩
 rw [Za0] at a5
 refine Z3 (Z1 ?_)
 refine U2 (k := .i64) (a := a1) (b := (a0.length : Int)) (by exact b0) (by exact b4) rfl (Z0 (Z3 ?_))
 by_cases b5 : a1 < (a0.length : Int)
 rw [if_pos b5] at a5
 refine Y0 (bT b5 rfl) (Y6 (Z3 (Y7 (Z3 (Z1 ?_)))))
 obtain ⟨g8, g9, f1, h0, _, c7, c8, ⟨_, _, rfl, rfl, rfl⟩, c9⟩ := a8.elem (i := a1) (by omega) (by omega)
 refine W3 R2 rfl (by exact b3) c7 (by exact b0) (by omega) (by omega) rfl ?_
 refine V4 (Z7 .u8 ((rd a0 a1).1) ++ [vI ((rd a0 a1).2)]) Zq4 rfl (hS.froz _ _ c8) rfl c9 rfl ?_
 refine V0 (z := vA (Z7 .u8 (fun _ => 0) ++ [vI 0])) (Z7 .u8 (fun _ => 0) ++ [vI 0]).toArray Zw6.zero rfl hS rfl ?_
 intro b8 h1 hS
 refine X8 (v := vA (Z7 .u8 ((rd a0 a1).1) ++ [vI ((rd a0 a1).2)])) (vs := (Z7 .u8 ((rd a0 a1).1) ++ [vI ((rd a0 a1).2)]).toArray) (cs := (Z7 .u8 (fun _ => 0) ++ [vI 0]).toArray) Zq4 rfl rfl rfl hS rfl (L8 (S4 .u8 ((rd a0 a1).1)) (S2 rfl)) rfl ?_
 intro h2 hS
 refine Z0 ?_
 obtain ⟨b7, d0, a5⟩ := bind_some a5
 refine U0 6 (Q5 [(14, MP.eq (m4)), (15, MP.eq (vP b8)), (16, MP.eq (vA (Z7 .u8 ((rd a0 a1).1)))), (17, MP.eq (vA (Z7 .i64 b7))), (18, MP.eq (vQ b8 8)), (19, MP.eq (vI ((rd a0 a1).2)))]) [] mixed rfl rfl rfl hS (Z6 rfl ?_ (Z6 rfl ?_ (Z6 rfl ?_ (Z6 rfl ?_ (Z6 rfl ?_ (Z6 rfl ?_ U5)))))) ?_
 intro h3 h4 h5 h6 f2 hS d1 f3 hcq
 refine Z4 (m4) (evT (d1 3 rfl) b2) rfl ?_
 exact qn (.refl _) rfl hS rfl
 intro e3 h7 h8 h9 f4 hS d2 f5 hcq
 have e4 : ev e3 (.tmp 5) = vP b8 := Eq.trans (d2 5 rfl) rfl
 refine Y3 N2 e4 rfl ?_
 exact qn (.refl _) rfl hS rfl
 intro i0 i1 i2 i3 f6 hS f7 d3 hcq
 refine V4 (Z7 .u8 ((rd a0 a1).1)) P9 (eM (d3 1 15 rfl rfl)) (hS.get (o := cA (Z7 .u8 ((rd a0 a1).1) ++ [vI ((rd a0 a1).2)]) 76) (mR mL)) rfl (fun j hj => Zg5 ([]) (Z7 .u8 ((rd a0 a1).1)) (([vI ((rd a0 a1).2)])) j hj) rfl ?_
 exact qn (.refl _) rfl hS rfl
 intro i4 i5 i6 i7 f8 hS f9 d4 hcq
 refine X0 Tryz.call176 (M0 (eM (d4 2 16 rfl rfl))) rfl (Zk5 d0  hS) ?_
 rintro i8 i9 ⟨j0, j1, rfl, d5, hS, ⟨_, rfl, rfl⟩⟩
 refine ⟨_, rfl, ?_⟩
 exact qn d5 rfl hS rfl
 intro e5 j2 j3 j4 g0 hS d6 g1 hcq
 have e6 : ev e5 (.tmp 5) = vP b8 := Eq.trans (d6 5 rfl) rfl
 refine Y3 Zb5 e6 rfl ?_
 exact qn (.refl _) rfl hS rfl
 intro j5 j6 j7 j8 g2 hS g3 d7 hcq
 refine Y4 (vI ((rd a0 a1).2)) ty2 (eM (d7 4 18 rfl rfl)) (hS.get (mR mL)) rfl rfl ?_
 exact qn (.refl _) rfl hS rfl
 intro j9 e7 c5 c0 hS b6 c1 hcq
 have hS : St c5 e7 ([(b8, cA (Z7 .u8 ((rd a0 a1).1) ++ [vI ((rd a0 a1).2)]) 76)] ++ (a4 ++ ([(b1, cA ([s0]) 47)] ++ L))) := hS
 have Z2 := Z2.trans c0
 have a8 := a8.mono c0
 have a6 := a6.mono c0
 have hS := hS.perm U1
 refine Yn6 (a := b7) (m := (rd a0 a1).2) Zj6 (by exact (eM (c1 0 14 (by decide) rfl))) (by exact (eM (c1 3 17 (by decide) rfl))) (by exact (eM (c1 5 19 (by decide) rfl))) a6 hS ?_
 intro k0 e8 d8 hS
 have hS := hS.perm U1.symm
 refine Z0 (X3 (Z1 ?_))
 refine W8 (a1 + 1) (by exact (evT (b6 10 rfl) b0)) rfl (IntWalk.i64_in _ (by omega)) rfl (Z4 (vI (a1 + 1)) rfl rfl (Z0 ?_))
 have hS := St.dropA hS
 exact e1 _ _ ⟨(a1 + 1), (D5 a3 b7 ((rd a0 a1).2)), c5, e8, a5, Z2, hS, (by omega), d8, a8, (evT (b6 3 rfl) b2), (evT (b6 8 rfl) b3), (evT (b6 9 rfl) b4), rfl⟩
 rw [if_neg b5] at a5
 refine Z9 (bF b5 rfl) ?_
 refine W4 rfl ?_
 have hz := Option.some.inj a5
 subst hz
 exact e2 _ _ ⟨a3, c6, a4, rfl, Z2, hS, a6, a8, b2⟩
 exact ⟨0, ([] : MpT), H, C6, a5, Z2, hS, (by omega), e0, a8, rfl, rfl, rfl, rfl⟩
 rintro g4 g5 ⟨a7, g6, a9, rfl, Z2, hS, b9, a8, c2⟩
 dsimp only [Ex.elim] at c4
 refine Z3 (Z1 (Z4 (m4) (by exact c2) rfl (Z5 (m4) rfl rfl (Z0 ?_))))
 refine Y9 (vs := [m4]) Tryz.func90 ⟨rfl, trivial⟩ ?_
 have hS := St.dropMid hS
 have hz := Option.some.inj c4
 subst hz
 exact ⟨_, _, _, rfl, Z2, hS, b9⟩
end
section
open Go
def I0 (K : Nat) (a0 : (List MpT)) : Nat → Int → Int → Option (Ex Int (Int))
 | 0, _, _ => none
 | k + 1, a5, a3 => (if a3 < (a0.length : Int) then ((Zh3 K (rd a0 a3) a5).bind fun r4 => (if r4 < 0 then some (.ret (-1)) else I0 K a0 k r4 (a3 + 1))) else some (.go a5))
def Zg8 (K : Nat) (a0 : (List MpT)) (a1 : Int) : Option Int := ((I0 K a0 K a1 0).bind (Ex.elim (fun r => some r) (fun s => (fun (a6 : Int) => some a6) s)))
theorem Yh2 {K : Nat} {a0 : (List MpT)} {a1 : Int} {r : Int} (q0 : Zg8 K a0 a1 = some r) {H : FH} {w : World} {L : OL} {s0 : Value} (a9 : Y2 (W0 yT) H s0 a0) (hS : St H w L) :
 Calls Tryz.prog 72 #[s0, vI a1] w (S3 (fun v G => (R.int .i64).p G v r) H L) := by
 have Z2 := Sub.refl H
 refine X2 Tryz.func72 rfl Tryz.ntmps72 rfl ?_
 unfold Zg8 at q0
 refine Z3 (Z1 (Z5 (vI 0) rfl rfl (Z0 (Z3 (Z3 (Z1 (Z5 (vI 0) rfl rfl (Z0 (Y7 ?_)))))))))
 obtain ⟨b6, a4, b1⟩ := bind_some q0
 refine W7 (id := 0) (fun k f w => ∃ (a5 : Int) (a3 : Int) (H1 : FH), I0 K a0 k a5 a3 = some b6 ∧ Sub H H1 ∧ St H1 w (L) ∧ 0 ≤ a3 ∧ Y2 (W0 yT) H1 s0 a0 ∧ ev f (.tmp 0) = s0 ∧ ev f (.tmp 1) = vI a5 ∧ ev f (.tmp 5) = vI a3) (fun f w => ∃ (a6 : Int) (H1 : FH), b6 = .go a6 ∧ Sub H H1 ∧ St H1 w (L) ∧ ev f (.tmp 1) = vI a6) rfl ?_ ?_ K ?_ ?_
 rintro f w ⟨a5, a3, H1, a4, _⟩
 rw [I0] at a4; cases a4
 rintro k c8 c9 c1 c2 ⟨a5, a3, b9, a4, Z2, hS, c3, a9, a7, b0, a8⟩
 rw [I0] at a4
 refine Z3 (Z3 (Z1 (Z4 (vI a3) (by exact a8) rfl (Z4 (s0) (by exact a7) rfl ?_))))
 have d3 := a9.bound
 refine W6 D7 rfl a9 rfl ?_
 refine U2 (k := .i64) (a := a3) (b := (a0.length : Int)) rfl rfl rfl (Z0 ?_)
 by_cases b2 : a3 < (a0.length : Int)
 rw [if_pos b2] at a4
 refine Y0 (bT b2 rfl) (Y6 (Z3 (Y7 (Z3 (Z1 (Z4 (s0) (by exact a7) rfl (Z4 (vI a3) (by exact a8) rfl ?_)))))))
 obtain ⟨b3, o3, d4, E3, _, c4, c5, ⟨c0, rfl, b7⟩, c6⟩ := a9.elem (i := a3) (by omega) (by omega)
 refine W3 D7 rfl rfl c4 rfl (by omega) (by omega) rfl (Y3 U4 rfl rfl ?_)
 refine Y4 (c0) Q1 rfl (hS.froz _ _ c5) (c6 0 (show 0 < 1 by decide)) rfl (Z4 (vI a5) (by exact b0) rfl ?_)
 obtain ⟨r4, c7, a4⟩ := bind_some a4
 refine X0 Tryz.call118 (T0 rfl rfl) rfl (Yh3 c7 b7 hS) ?_
 rintro e4 w5 ⟨_, H4, rfl, b8, hS, rfl⟩
 refine ⟨_, rfl, ?_⟩
 have Z2 := Z2.trans b8
 have a9 := a9.mono b8
 refine Z5 (vI r4) rfl rfl (Z0 (Z3 (Z1 (Z4 (vI r4) rfl rfl ?_))))
 refine U2 (k := .i64) (a := r4) (b := 0) rfl rfl rfl (Z0 ?_)
 by_cases b4 : r4 < 0
 rw [if_pos b4] at a4
 refine Y0 (bT b4 rfl) (Z3 (Z1 (Z5 (vI (-1)) rfl rfl (Z0 ?_))))
 refine Y9 (vs := [vI (-1)]) Tryz.func72 ⟨rfl, trivial⟩ ?_
 have hz := Option.some.inj a4
 subst hz
 dsimp only [Ex.elim] at b1
 have hz := Option.some.inj b1
 subst hz
 exact ⟨_, _, rfl, Z2, hS, rfl⟩
 rw [if_neg b4] at a4
 refine Z9 (bF b4 rfl) (Y6 (X3 (Z1 (Z4 (vI a3) (by exact a8) rfl ?_))))
 refine W8 (a3 + 1) rfl rfl (IntWalk.i64_in _ (by omega)) rfl (Z5 (vI (a3 + 1)) rfl rfl (Z0 ?_))
 exact c1 _ _ ⟨r4, (a3 + 1), H4, a4, Z2, hS, (by omega), a9, a7, rfl, rfl⟩
 rw [if_neg b2] at a4
 refine Z9 (bF b2 rfl) ?_
 refine W4 rfl ?_
 have hz := Option.some.inj a4
 subst hz
 exact c2 _ _ ⟨a5, b9, rfl, Z2, hS, b0⟩
 exact ⟨a1, 0, H, a4, Z2, hS, (by omega), a9, rfl, rfl, rfl⟩
 rintro d0 d1 ⟨a6, d2, rfl, Z2, hS, b5⟩
 dsimp only [Ex.elim] at b1
 refine Z3 (Z1 (Z4 (vI a6) (by exact b5) rfl (Z5 (vI a6) rfl rfl (Z0 ?_))))
 refine Y9 (vs := [vI a6]) Tryz.func72 ⟨rfl, trivial⟩ ?_
 have hz := Option.some.inj b1
 subst hz
 exact ⟨_, _, rfl, Z2, hS, rfl⟩
end
section
open Go
def Zm9 (K : Nat) (a0 : (A8 × Int)) : Option (A8 × Int) := ((Zf5 K a0.1).bind fun a1 => some (a1, a0.2))
theorem Yn7 {K : Nat} {a0 : (A8 × Int)} {r : (A8 × Int)} (q0 : Zm9 K a0 = some r) {H : FH} {w : World} {L : OL} (hS : St H w L) :
 Calls Tryz.prog 200 #[vA (Z7 .u8 a0.1 ++ [vI a0.2])] w (S3 (fun v G => (R.agg yT).p (G.new H) v r) H L) := by
 have Z2 := Sub.refl H
 refine X2 Tryz.func200 rfl Tryz.ntmps200 rfl ?_
 unfold Zm9 at q0
 refine Z3 (Z1 ?_)
 refine S5 (v := vA (Z7 .u8 a0.1 ++ [vI a0.2])) (Z7 .u8 a0.1 ++ [vI a0.2]).toArray rfl rfl hS rfl ?_
 intro b1 w2 hS
 refine V0 (z := vA (Z7 .u8 (fun _ => 0) ++ [vI 0])) (Z7 .u8 (fun _ => 0) ++ [vI 0]).toArray Zw6.zero rfl hS rfl ?_
 intro b4 w5 hS
 refine Z0 (Z3 (Z1 ?_))
 refine V0 (z := vA (Z7 .u8 (fun _ => 0) ++ [vI 0])) (Z7 .u8 (fun _ => 0) ++ [vI 0]).toArray Zw6.zero rfl hS rfl ?_
 intro b7 w8 hS
 refine Z0 (Z3 (Z1 (Y3 Xv8 rfl rfl ?_)))
 refine V4 (Z7 .u8 a0.1) Wj4 rfl (hS.get (o := cA (Z7 .u8 a0.1 ++ [vI a0.2]) 236) (mR (mR mL))) rfl (fun j hj => Zg5 ([]) (Z7 .u8 a0.1) (([vI a0.2])) j hj) rfl ?_
 obtain ⟨a1, a3, q0⟩ := bind_some q0
 refine X0 Tryz.call267 (M0 rfl) rfl (Yf7 a3  hS) ?_
 rintro a5 a6 ⟨a7, a8, rfl, a4, hS, ⟨_, rfl, rfl⟩⟩
 refine ⟨_, rfl, ?_⟩
 have Z2 := Z2.trans a4
 refine Y3 N2 rfl rfl ?_
 refine E0 (v := vA (Z7 .u8 a1)) (cs := (Z7 .u8 (fun _ => 0) ++ [vI 0]).toArray) (cs' := (Z7 .u8 a1 ++ [vI 0]).toArray) P9 rfl rfl hS rfl (S4 .u8 a1) (Nat.le_of_ble_eq_true rfl) (by have h := Ym8 (Z7 .u8 a1) ([]) (Z7 .u8 (fun _ => 0)) (([vI 0])) rfl; simp only [List.append_assoc, List.nil_append, List.append_nil] at h ⊢; exact h) ?_
 intro a9 hS
 refine Z0 (Z3 (Z1 (Y3 Xv2 rfl rfl ?_)))
 refine Y4 (vI a0.2) ty2 rfl (hS.get (mR (mR mL))) rfl rfl (Y3 Zb5 rfl rfl ?_)
 refine E0 (v := vI a0.2) (cs := (Z7 .u8 a1 ++ [vI 0]).toArray) (cs' := (Z7 .u8 a1 ++ [vI a0.2]).toArray) ty2 rfl rfl hS rfl (Zs8 rfl) (Nat.le_of_ble_eq_true rfl) rfl ?_
 intro b0 hS
 refine Z0 (Z3 (Z1 ?_))
 refine W1 Zq4 rfl (hS.get mL) rfl rfl ?_
 have hS := hS.perm U1
 refine X8 (v := vA (Z7 .u8 a1 ++ [vI a0.2])) (vs := (Z7 .u8 a1 ++ [vI a0.2]).toArray) (cs := (Z7 .u8 (fun _ => 0) ++ [vI 0]).toArray) Zq4 rfl rfl rfl hS rfl (L8 (S4 .u8 a1) (S2 rfl)) rfl ?_
 intro b2 hS
 have hS := hS.perm U1.symm
 refine Z0 ?_
 refine Y9 (vs := [vA (Z7 .u8 a1 ++ [vI a0.2])]) Tryz.func200 ⟨⟨_, rfl, U6 Zq4 (hS.get (mR mL)) rfl⟩, trivial⟩ ?_
 have hz := Option.some.inj q0
 subst hz
 exact ⟨_, _, rfl, Z2, (St.dropA (St.dropA (St.dropA hS))), ⟨_, rfl, ⟨_, _, rfl, rfl, rfl⟩⟩⟩
end
section
open Go
def T1 (K : Nat) (a0 : MpT) (a1 : A8) (a2 : Int) : Option MpT := (if nfm a0 = true ∧ -4611686018427387904 ≤ a2 ∧ a2 ≤ 4611686018427387904 then ((Zg6 K (IntKind.i64.wrap ((N9 a0 a1) + a2))).bind fun r4 => (if r4 = 0 then some (Zn6 a0 a1) else some (D5 a0 a1 r4))) else none)
theorem Zx0 {K : Nat} {a0 : MpT} {a1 : A8} {a2 : Int} {r : MpT} (q0 : T1 K a0 a1 a2 = some r) {H : FH} {w : World} {L C0 : OL} {s0 : Value} (a3 : R9 .i64 s0 a0 C0) (hS : St H w (C0 ++ L)) :
 Calls Tryz.prog 225 #[s0, vA (Z7 .i64 a1), vI a2] w (Xw7 .i64 s0 r H L) := by
 have Z2 := Sub.refl H
 refine X2 Tryz.func225 rfl Tryz.ntmps225 rfl ?_
 unfold T1 at q0
 obtain ⟨hG, q0⟩ := gd q0
 refine Z3 (Z1 ?_)
 refine S5 (v := vA (Z7 .i64 a1)) (Z7 .i64 a1).toArray rfl rfl hS rfl ?_
 intro b1 w2 hS
 refine Z0 (Z3 (Z1 (Z4 (s0) rfl rfl ?_)))
 refine W1 P4 rfl (hS.get mL) rfl rfl ?_
 have hS := hS.perm U1
 refine Xq2 (a := a1) Zj6 rfl rfl a3 hS rfl ?_
 have hS := hS.perm U1.symm
 refine Z4 (vI a2) rfl rfl ?_
 refine W8 (IntKind.i64.wrap ((N9 a0 a1) + a2)) rfl rfl rfl rfl ?_
 obtain ⟨r4, a7, q0⟩ := bind_some q0
 refine X0 Tryz.call215 (M0 rfl) rfl (Ya7 a7  hS) ?_
 rintro e4 w5 ⟨_, H4, rfl, a5, hS, rfl⟩
 refine ⟨_, rfl, ?_⟩
 have Z2 := Z2.trans a5
 have a3 := a3.mono a5
 refine Z5 (vI r4) rfl rfl (Z0 (Z3 (Z1 (Z4 (vI r4) rfl rfl ?_))))
 refine K9 (k := .i64) (a := r4) (b := 0) rfl rfl rfl (Z0 ?_)
 by_cases a4 : r4 = 0
 rw [if_pos a4] at q0
 refine Z9 (bN a4 rfl) (Z1 (Z4 (s0) rfl rfl ?_))
 refine W1 P4 rfl (hS.get mL) rfl rfl ?_
 have hS := hS.perm U1
 refine Xt5 (a := a1) Zj6 rfl rfl a3 hS ?_
 intro w7 C8 a8 hS
 have hS := hS.perm U1.symm
 refine Z0 ?_
 refine Zu6 (vs := []) Tryz.func225 trivial ?_
 have hS := hS.perm U1
 have hS := St.dropMid hS
 have hz := Option.some.inj q0
 subst hz
 exact ⟨_, _, rfl, Z2, hS, a8⟩
 rw [if_neg a4] at q0
 refine Y0 (bO a4 rfl) (Z1 (Z4 (s0) rfl rfl ?_))
 refine W1 P4 rfl (hS.get mL) rfl rfl (Z4 (vI r4) rfl rfl ?_)
 have hS := hS.perm U1
 refine Yn6 (a := a1) (m := r4) Zj6 rfl rfl rfl a3 hS ?_
 intro a9 b0 a6 hS
 have hS := hS.perm U1.symm
 refine Z0 ?_
 refine Zu6 (vs := []) Tryz.func225 trivial ?_
 have hS := hS.perm U1
 have hS := St.dropMid hS
 have hz := Option.some.inj q0
 subst hz
 exact ⟨_, _, rfl, Z2, hS, a6⟩
end
section
open Go
def N8 (K : Nat) (a0 : (List Int)) (a1 : (Int → Option Bool)) : Option Bool := ((F8 K a0 a1).bind fun r1 => some (decide (0 ≤ r1)))
theorem Zo1 {K : Nat} {a0 : (List Int)} {a1 : (Int → Option Bool)} {r : Bool} (q0 : N8 K a0 a1 = some r) {H : FH} {w : World} {L : OL} {s0 : Value} {s1 : Value} (a3 : Y2 (Y8 .i64) H s0 a0) (a4 : FnQ Tryz.prog s1 (R.int .i64) a1 H) (hS : St H w L) :
 Calls Tryz.prog 218 #[s0, s1] w (S3 (fun v G => R.bool.p G v r) H L) := by
 have Z2 := Sub.refl H
 refine X2 Tryz.func218 rfl Tryz.ntmps218 rfl ?_
 unfold N8 at q0
 refine Z3 (Z1 (Z5 (Value.bool false) rfl rfl (Z0 (Z3 (Z1 (Z4 (s0) rfl rfl (Z4 (s1) rfl rfl ?_)))))))
 obtain ⟨r1, a5, q0⟩ := bind_some q0
 refine X0 Tryz.call263 (T0 rfl rfl) rfl (Zq6 a5 a3 a4 hS) ?_
 rintro e1 w2 ⟨_, H1, rfl, a6, hS, rfl⟩
 refine ⟨_, rfl, ?_⟩
 have Z2 := Z2.trans a6
 refine Yb1 (k := .i64) (a := r1) (b := 0) rfl rfl rfl (Z5 (Value.bool (decide (0 ≤ r1))) rfl rfl (Z0 ?_))
 refine Y9 (vs := [Value.bool (decide (0 ≤ r1))]) Tryz.func218 ⟨rfl, trivial⟩ ?_
 have hz := Option.some.inj q0
 subst hz
 exact ⟨_, _, rfl, Z2, hS, rfl⟩
end
end Go.Proofs.YtfodlhkoafhplaaGreat
