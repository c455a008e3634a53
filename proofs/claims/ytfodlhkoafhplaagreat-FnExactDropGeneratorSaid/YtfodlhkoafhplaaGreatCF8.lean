/- Walks of functions: each computes its pure function, if that gives a value. -/
import Derived.Test.YtfodlhkoafhplaaGreatCF4
import Derived.Test.YtfodlhkoafhplaaGreatShelfP
import Derived.Test.YtfodlhkoafhplaaGreatCTy
import Derived.Test.YtfodlhkoafhplaaGreatCF3
import Derived.Test.YtfodlhkoafhplaaGreatCF2
import Derived.Test.YtfodlhkoafhplaaGreatCF1
namespace Go.Proofs.YtfodlhkoafhplaaGreat
open Go Go.Sort Go.RowKit Go.Shelf Go.Lib
set_option linter.unusedSimpArgs false
set_option linter.unusedVariables false
abbrev KeyB := {a : A8 // ∀ i, 0 ≤ a i ∧ a i ≤ 2305843009213693952}
instance : Inhabited KeyB := ⟨⟨fun _ => 0, fun _ => by simp⟩⟩
def cmpV (a b : A8) : Int :=
 if a 0 = b 0 then if a 1 = b 1 then if a 2 = b 2 then if a 3 = b 3 then if a 4 = b 4 then if a 5 = b 5 then if a 6 = b 6 then if a 7 = b 7 then 0
  else IntKind.i64.wrap (b 7 - a 7) else IntKind.i64.wrap (b 6 - a 6) else IntKind.i64.wrap (b 5 - a 5) else IntKind.i64.wrap (b 4 - a 4) else IntKind.i64.wrap (b 3 - a 3)
  else IntKind.i64.wrap (b 2 - a 2) else IntKind.i64.wrap (b 1 - a 1) else IntKind.i64.wrap (b 0 - a 0)
theorem cmp_val (a b : A8) : g_impl_power_compare 9 a b = some (cmpV a b) := by
 have e : ∀ (m : A8) (j : Nat) (h : j < 8), idx8 m (j : Int) = m ⟨j, h⟩ := fun m j h => by unfold idx8; simp [h]
 have e0 := fun m => e m 0 (by decide)
 have e1 := fun m => e m 1 (by decide)
 have e2 := fun m => e m 2 (by decide)
 have e3 := fun m => e m 3 (by decide)
 have e4 := fun m => e m 4 (by decide)
 have e5 := fun m => e m 5 (by decide)
 have e6 := fun m => e m 6 (by decide)
 have e7 := fun m => e m 7 (by decide)
 simp only [Int.ofNat_zero, Int.natCast_one, Int.cast_ofNat_Int] at e0 e1 e2 e3 e4 e5 e6 e7
 unfold g_impl_power_compare cmpV
 have z : ∀ (j k : Int), j + 1 = k → j + 1 = k := fun _ _ h => h
 simp only [g_impl_power_compare_l0, show (0 : Int) + 1 = 1 from rfl, show (1 : Int) + 1 = 2 from rfl, show (2 : Int) + 1 = 3 from rfl, show (3 : Int) + 1 = 4 from rfl, show (4 : Int) + 1 = 5 from rfl, show (5 : Int) + 1 = 6 from rfl,
  show (6 : Int) + 1 = 7 from rfl, show (7 : Int) + 1 = 8 from rfl, show (0 : Int) < 8 from by decide, show (1 : Int) < 8 from by decide, show (2 : Int) < 8 from by decide, show (3 : Int) < 8 from by decide, show (4 : Int) < 8 from by decide,
  show (5 : Int) < 8 from by decide, show (6 : Int) < 8 from by decide, show (7 : Int) < 8 from by decide, show ¬ (8 : Int) < 8 from by decide, if_true, if_false, e0, e1, e2, e3, e4, e5, e6, e7]
 simp only [show (⟨0, by decide⟩ : Fin 8) = 0 from rfl, show (⟨1, by decide⟩ : Fin 8) = 1 from rfl, show (⟨2, by decide⟩ : Fin 8) = 2 from rfl, show (⟨3, by decide⟩ : Fin 8) = 3 from rfl, show (⟨4, by decide⟩ : Fin 8) = 4 from rfl,
  show (⟨5, by decide⟩ : Fin 8) = 5 from rfl, show (⟨6, by decide⟩ : Fin 8) = 6 from rfl, show (⟨7, by decide⟩ : Fin 8) = 7 from rfl]
 by_cases h0 : a 0 = b 0
 by_cases h1 : a 1 = b 1
 by_cases h2 : a 2 = b 2
 by_cases h3 : a 3 = b 3
 by_cases h4 : a 4 = b 4
 by_cases h5 : a 5 = b 5
 by_cases h6 : a 6 = b 6
 by_cases h7 : a 7 = b 7
 simp [h0, h1, h2, h3, h4, h5, h6, h7, Ex.elim]
 simp [h0, h1, h2, h3, h4, h5, h6, h7, Ex.elim]
 simp [h0, h1, h2, h3, h4, h5, h6, Ex.elim]
 simp [h0, h1, h2, h3, h4, h5, Ex.elim]
 simp [h0, h1, h2, h3, h4, Ex.elim]
 simp [h0, h1, h2, h3, Ex.elim]
 simp [h0, h1, h2, Ex.elim]
 simp [h0, h1, Ex.elim]
 simp [h0, Ex.elim]
theorem wrap_neg {x y : Int} (hx : 0 ≤ x ∧ x ≤ 2305843009213693952) (hy : 0 ≤ y ∧ y ≤ 2305843009213693952) : decide (IntKind.i64.wrap (y - x) < 0) = decide (y < x) := by
 rw [IntWalk.i64_in _ (by omega)]
 simp only [decide_eq_decide]
 omega
theorem lt_bef (x y : KeyB) : ltOf (fun x y : KeyB => cmpV x.1 y.1) x y = bef x.1 y.1 := by
 unfold ltOf cmpV bef l8
 have hw : ∀ i, decide (IntKind.i64.wrap (y.1 i - x.1 i) < 0) = decide (y.1 i < x.1 i) := fun i => wrap_neg (x.2 i) (y.2 i)
 simp only [befL]
 by_cases h0 : x.1 0 = y.1 0
 by_cases h1 : x.1 1 = y.1 1
 by_cases h2 : x.1 2 = y.1 2
 by_cases h3 : x.1 3 = y.1 3
 by_cases h4 : x.1 4 = y.1 4
 by_cases h5 : x.1 5 = y.1 5
 by_cases h6 : x.1 6 = y.1 6
 by_cases h7 : x.1 7 = y.1 7
 simp [h0, h1, h2, h3, h4, h5, h6, h7]
 simp only [h0, h1, h2, h3, h4, h5, h6, if_true, if_neg h7]; exact hw 7
 simp only [h0, h1, h2, h3, h4, h5, if_true, if_neg h6]; exact hw 6
 simp only [h0, h1, h2, h3, h4, if_true, if_neg h5]; exact hw 5
 simp only [h0, h1, h2, h3, if_true, if_neg h4]; exact hw 4
 simp only [h0, h1, h2, if_true, if_neg h3]; exact hw 3
 simp only [h0, h1, if_true, if_neg h2]; exact hw 2
 simp only [h0, if_true, if_neg h1]; exact hw 1
 simp only [if_neg h0]; exact hw 0
theorem swoKey : SWO (ltOf fun x y : KeyB => cmpV x.1 y.1) where
 irrefl x := by rw [lt_bef]; exact bef_irrefl _
 trans x y z h1 h2 := by rw [lt_bef] at *; exact bef_trans h1 h2
 ntrans x y z h1 h2 := by
  rw [lt_bef] at *
  cases h : bef x.1 z.1 with
  | false => rfl
  | true =>
   by_cases exy : x.1 = y.1
   rw [exy] at h; rw [h] at h2; cases h2
   have hyx : bef y.1 x.1 = true := (bef_total exy).resolve_left (by rw [h1]; simp)
   rw [bef_trans hyx h] at h2; cases h2
/-- a world in which all is frozen; what comes behind it -/
def FH.all (W : World) : FH := ⟨fun b => W.heap[b]?, fun _ => none, some (W.tape, W.os, W.output, W.drawn, W.heap.size)⟩
theorem St.all (W : World) : St (FH.all W) W [] := ⟨fun _ _ h => h, fun _ _ h => (by cases h), fun t h => (by cases h; exact ⟨rfl, rfl, rfl, Nat.le_refl _⟩), fun b o h hl => (by
 have h : W.heap[b]? = some o := h
 have hl : W.heap.size ≤ b := hl
 rw [Array.getElem?_eq_none hl] at h; cases h), fun _ h => (by cases h), List.nodup_nil, fun _ h => (by cases h)⟩
theorem all_grow {W w' : World} {H' : FH} (hs : Sub (FH.all W) H') (hS : St H' w' []) : ∃ q os, w' = grow (W.drewN q) os := by
 obtain ⟨h1, h2, h3, h4⟩ := hS.rest _ (hs.2.2.trans rfl)
 have hsz : W.heap.size ≤ w'.heap.size := by
  by_cases h0 : W.heap.size = 0
  omega
  have hl : W.heap[W.heap.size - 1]? = some W.heap[W.heap.size - 1] := by simp
  have := lt_of_get (hS.froz _ _ (hs.1 _ _ hl))
  omega
 refine ⟨w'.drawn - W.drawn, w'.heap.extract W.heap.size w'.heap.size, ?_⟩
 have hh : w'.heap = W.heap ++ w'.heap.extract W.heap.size w'.heap.size := by
  apply Array.ext_getElem?
  intro i
  rw [Array.getElem?_append]
  split
  rename_i hi
  have hl : W.heap[i]? = some W.heap[i] := by simp [hi]
  rw [hl]
  exact hS.froz _ _ (hs.1 _ _ hl)
  rename_i hi
  rw [Array.getElem?_extract]
  by_cases hi2 : i < w'.heap.size
  rw [if_pos (by omega)]
  congr 1; omega
  rw [if_neg (by omega)]
  simp; omega
 obtain ⟨hp, tp, dr, os, out⟩ := w'
 simp only at h1 h2 h3 h4 hh hsz ⊢
 unfold grow World.drewN
 simp only
 congr 1
 omega
theorem cmpLays (blk off size : Nat) (w : World) : CmpLays Tryz.prog 221 #[] (fun x : KeyB => enc8 .i64 x.1) 8 (fun x y => cmpV x.1 y.1) blk off size w := by
 intro m os dk hd x y
 have h := g_impl_power_compare_ok (cmp_val x.1 y.1) (St.all (sortWorldK (fun x : KeyB => enc8 .i64 x.1) 8 w blk off m dk os))
 refine h.mono ?_
 rintro e w' ⟨v, H', rfl, hs, hS, hv⟩
 exact ⟨congrArg Ending.returned hv, all_grow hs hS⟩
theorem St.ahead {H : FH} {w : World} {L : OL} (h : St H w L) (n : Nat) : St H (Sort.ahead w n) L :=
 ⟨h.froz, h.memo, fun t ht => (let ⟨a, b, c, d⟩ := h.rest t ht; ⟨a, b, c, Nat.le_trans d (Nat.le_add_right _ _)⟩), h.nofz, h.own, h.nodup, h.apart⟩
theorem St.grown {H : FH} {w : World} {L : OL} (h : St H w L) (os : Array Obj) : St H (grow w os) L := by
 have hlt : ∀ b o', w.heap[b]? = some o' → (grow w os).heap[b]? = some o' := fun b o' hb => by
  have := lt_of_get hb
  show (w.heap ++ os)[b]? = some o'
  rw [Array.getElem?_append_left this]; exact hb
 exact ⟨fun b o hb => hlt b o (h.froz b o hb), fun b I hb => (let ⟨h1, h2, o, h3, h4⟩ := h.memo b I hb; ⟨h1, h2, o, hlt _ _ h3, h4⟩), h.rest, h.nofz, fun x hx => hlt _ _ (h.own x hx), h.nodup, h.apart⟩
theorem St.mapBlock {H : FH} {w : World} {L : OL} {b : Nat} {cs : Array Value} {E : TypeId} (h : St H w ([(b, .cells cs E)] ++ L)) (f : Array Value → Array Value) : St H (Sort.mapBlock w b f) ([(b, .cells (f cs) E)] ++ L) := by
 have hw : w.heap[b]? = some (.cells cs E) := St.hd h
 have e : Sort.mapBlock w b f = { w with heap := w.heap.setIfInBounds b (.cells (f cs) E) } := by
  unfold Sort.mapBlock
  congr 1
  apply Array.ext_getElem?
  intro k
  rw [Array.getElem?_modify, Array.getElem?_setIfInBounds]
  by_cases hk : b = k
  subst hk
  have := lt_of_get hw
  rw [hw]
  simp [this, onCells]
  simp [hk]
 rw [e]
 exact St.put h _
theorem keys_of {xs : List A8} (hb : ∀ a, a ∈ xs → ∀ i, 0 ≤ a i ∧ a i ≤ 2305843009213693952) : ∃ ks : List KeyB, ks.map Subtype.val = xs := by
 induction xs with
 | nil => exact ⟨[], rfl⟩
 | cons a xs ih =>
  obtain ⟨ks, rfl⟩ := ih (fun b h => hb b (List.mem_cons_of_mem _ h))
  exact ⟨⟨a, hb a (List.mem_cons_self ..)⟩ :: ks, rfl⟩
theorem flat_get (ks : List KeyB) (t : Nat) (h : t < ks.length * 8) : (flatK (fun x : KeyB => enc8 .i64 x.1) 8 ks.toArray)[t]! = (enc8 .i64 (ks[t / 8]!).1)[t % 8]! := by
 rw [get_flatK _ _ _ _ (by simpa using h)]
 simp
theorem sort_ok {H : FH} {w : World} {L : OL} {b c : Nat} {cs : Array Value} {xs : List A8} (hl : xs.length ≤ c) (hc : c ≤ maxLen) (hcs : cs.size = c * 8)
 (hx : ∀ i x, xs[i]? = some x → ∀ j, j < 8 → cs[i * 8 + j]? = (enc8 .i64 x)[j]?) (hS : St H w ([(b, .cells cs 188)] ++ L))
 (hb : ∀ a, a ∈ xs → ∀ i, 0 ≤ a i ∧ a i ≤ 2305843009213693952) (hlen : xs.length ≤ 1099511627776) (hnd : xs.Nodup) :
 Calls Tryz.prog 253 #[.slice (some ⟨b, 0, none⟩) xs.length c, .func (.func 221) #[] #[]] w (fun e w' => e = .returned (.tuple #[]) ∧ ∃ ys C', ys.Perm xs ∧ ys.Pairwise (fun p q => bef p q = true) ∧ St H w' (C' ++ L) ∧
  OwnSl (tyA8 .i64) 188 H (.slice (some ⟨b, 0, none⟩) xs.length c) ys C') := by
 obtain ⟨ks, rfl⟩ := keys_of hb
 have hw : w.heap[b]? = some (.cells cs 188) := St.hd hS
 have hget : ∀ (t : Nat), t < ks.length * 8 → cs[t]? = some ((flatK (fun x : KeyB => enc8 .i64 x.1) 8 ks.toArray)[t]!) := by
  intro t ht
  have h8 : t / 8 < ks.length := by omega
  have := hx (t / 8) (ks[t / 8]).1 (by simp [h8]) (t % 8) (Nat.mod_lt _ (by decide))
  rw [show t / 8 * 8 + t % 8 = t by omega] at this
  rw [this, flat_get ks t ht]
  have he : (enc8 .i64 (ks[t / 8]).1).length = 8 := rfl
  have h9 : t % 8 < (enc8 .i64 (ks[t / 8]).1).length := by rw [he]; exact Nat.mod_lt _ (by decide)
  rw [getElem!_pos ks _ h8, List.getElem?_eq_getElem h9, getElem!_pos (enc8 .i64 (ks[t / 8]).1) _ h9]
 have hH : HoldsK (fun x : KeyB => enc8 .i64 x.1) 8 w b 0 ks.toArray := by
  intro j hj
  rw [size_flatK] at hj
  have hj' : j < ks.length * 8 := by simpa using hj
  refine ⟨?_, ?_⟩
  rw [World.cell?, hw]
  simp only [Nat.zero_add]
  rw [hget j hj']; rfl
  simp [World.frozen?, hw]
 have hcall := AnyQ.slices_SortFunc Tryz.sortP 8 Tryz.isAgg188 Tryz.sizeOf188 (fun x : KeyB => enc8 .i64 x.1) (fun _ => rfl) (fun x v hv => enc8_one _ _ v hv) (fun x y => cmpV x.1 y.1) swoKey 221 #[] b 0 c ks.toArray w Tryz.call221
  (cmpLays b 0 ks.toArray.size w) hH (lt_of_get hw) (by simp at hlen ⊢; omega)
 change Calls Tryz.prog 253 _ _ _ at hcall
 simp only [List.size_toArray, List.length_map] at hcall ⊢
 refine hcall.mono ?_
 rintro e w' ⟨rfl, d', n, os, hp, hs, rfl⟩
 have hsz : d'.size = ks.length := by have := hp.1; simpa using this
 have hperm : d'.toList.Perm ks := by
  have := hp.2.2
  rw [Array.extract_eq_self_of_le (by omega), Array.extract_eq_self_of_le (by simp)] at this
  simpa using this
 have hF : (flatK (fun x : KeyB => enc8 .i64 x.1) 8 d').size = ks.length * 8 := by rw [size_flatK, hsz]
 refine ⟨rfl, d'.toList.map Subtype.val, [(b, .cells (putCells id 0 (flatK (fun x : KeyB => enc8 .i64 x.1) 8 d') cs) 188)], hperm.map _, ?_, ?_, .inr ⟨b, c, _, ?_, ?_, hc, ?_, rfl, ?_⟩⟩
 rw [List.pairwise_map, List.pairwise_iff_getElem]
 intro i j hi hj hij
 have hi' : i < d'.size := by simpa using hi
 have hj' : j < d'.size := by simpa using hj
 have := hs i j (Nat.zero_le _) hij (by simp at hj ⊢; omega)
 rw [lt_bef, getElem!_pos d' j hj', getElem!_pos d' i hi'] at this
 simp only [Array.getElem_toList]
 refine (bef_total ?_).resolve_right (by rw [this]; simp)
 intro e
 have hnd' : (d'.toList.map Subtype.val).Nodup := (hperm.map _).nodup_iff.2 hnd
 have := (List.nodup_iff_pairwise_ne.1 hnd')
 rw [List.pairwise_map, List.pairwise_iff_getElem] at this
 exact this i j hi hj hij (by simpa using e)
 have h1 := (hS.ahead n).mapBlock (putCells id 0 (flatK (fun x : KeyB => enc8 .i64 x.1) 8 d'))
 exact h1.grown os
 simp [hsz]
 simp [hsz]; simpa using hl
 simp only [putCells, Array.size_mapIdx]
 exact hcs
 intro i x hix
 refine ⟨_, rfl, fun j hj => ?_⟩
 have hj : j < 8 := hj
 have hi : i < d'.size := by
  rcases Nat.lt_or_ge i d'.size with h | h
  exact h
  rw [List.getElem?_eq_none (by simpa using h)] at hix; cases hix
 have hxv : x = d'[i].1 := by
  rw [List.getElem?_map] at hix
  simp [hi] at hix
  exact hix.symm
 subst hxv
 show (putCells id 0 (flatK (fun x : KeyB => enc8 .i64 x.1) 8 d') cs)[i * 8 + j]? = _
 have ht : i * 8 + j < ks.length * 8 := by omega
 have hcl : i * 8 + j < cs.size := by rw [hcs]; simp at hl; omega
 simp only [putCells, Array.getElem?_mapIdx]
 rw [Array.getElem?_eq_getElem hcl]
 simp only [Option.map_some]
 rw [if_pos (by rw [hF]; omega), Nat.sub_zero, get_flatK _ _ _ _ (by rw [hsz]; exact ht)]
 rw [show (i * 8 + j) / 8 = i by omega, show (i * 8 + j) % 8 = j by omega, getElem!_pos d' _ hi]
 have h9 : j < (enc8 .i64 d'[i].1).length := hj
 rw [getElem!_pos (enc8 .i64 d'[i].1) j h9, List.getElem?_eq_getElem h9]; rfl
def g_impl_degreeOf_j4 (K : Nat) (e2 : Int → Int → Option (Ex (Int × Bool) (Int))) (a6 : Int) (a3 : Int) (a7 : Bool) : Option (Ex (Int × Bool) (Int)) := (if a7 = true then some (.ret (0, false)) else e2 a6 (a3 + 1))
def g_impl_degreeOf_l0 (K : Nat) (a0 : (List Int)) (a1 : MpT) : Nat → Int → Int → Option (Ex (Int × Bool) (Int))
 | 0, _, _ => none
 | k + 1, a4, a3 => (if a3 < (a1.length : Int) then ((g_impl_powerOf K ((rd a1 a3).1)).bind fun d5 => ((g_impl_power_degree K d5 a0).bind fun a6 => (if 0 ≤ a4 then g_impl_degreeOf_j4 K (g_impl_degreeOf_l0 K a0 a1 k) a6 a3 (!decide (a6 = a4)) else g_impl_degreeOf_j4 K (g_impl_degreeOf_l0 K a0 a1 k) a6 a3 false))) else some (.go a4))
def g_impl_degreeOf (K : Nat) (a0 : (List Int)) (a1 : MpT) : Option (Int × Bool) := ((g_impl_degreeOf_l0 K a0 a1 K (-1) 0).bind (Ex.elim (fun r => some r) (fun s => (fun (b2 : Int) => some (b2, true)) s)))
set_option maxRecDepth 100000 in
set_option maxHeartbeats 1000000 in
theorem g_impl_degreeOf_ok {K : Nat} {a0 : (List Int)} {a1 : MpT} {r : (Int × Bool)} (q0 : g_impl_degreeOf K a0 a1 = some r) {H : FH} {w : World} {L : OL} {s0 : Value} {s1 : Value} (b3 : RdSl (tyInt .i64) H s0 a0) (a8 : RdSl yT H s1 a1) (hS : St H w L) :
 Calls Tryz.prog 130 #[s0, Value.agg ([s1]).toArray] w (Done (fun v G => (R.t2 (R.int .i64) R.bool).p G v r) H L) := by
 have hsub := Sub.refl H
 refine calls_of_run Tryz.func130 rfl Tryz.ntmps130 rfl ?_
 unfold g_impl_degreeOf at q0
 refine run_seq (run_region ?_)
 refine r_box (v := Value.agg ([s1]).toArray) ([s1]).toArray rfl rfl hS rfl ?_
 intro b1 w2 hS
 refine r_assign (vI 0) rfl rfl ?_
 refine r_assign (Value.bool false) rfl rfl ?_
 refine reg_nil (run_seq ?_)
 refine run_region ?_
 refine r_assign (vI (-1)) rfl rfl ?_
 refine reg_nil (run_seq ?_)
 refine run_seq (run_region ?_)
 refine r_fieldAddr fld47_0 rfl rfl ?_
 refine r_loadOne (s1) ty45 rfl (hS.get mL) rfl rfl ?_
 have f4 := a8.bound
 refine r_lenRd sl45 rfl a8 rfl ?_
 refine r_move (vI 0) rfl rfl ?_
 refine reg_nil (run_block ?_)
 obtain ⟨c4, a5, c2⟩ := bind_some q0
 refine loop_ind (id := 0) (fun k f w => ∃ (a4 : Int) (a3 : Int) (H1 : FH), g_impl_degreeOf_l0 K a0 a1 k a4 a3 = some c4 ∧ Sub H H1 ∧ St H1 w ([(b1, .cells ([s1]).toArray 47)] ++ L) ∧ 0 ≤ a3 ∧ RdSl (tyInt .i64) H1 s0 a0 ∧ RdSl yT H1 s1 a1 ∧ ev f (.tmp 0) = s0 ∧ ev f (.tmp 6) = vI a4 ∧ ev f (.tmp 11) = s1 ∧ ev f (.tmp 12) = vI (a1.length : Int) ∧ ev f (.tmp 13) = vI a3) (fun f w => ∃ (b2 : Int) (H1 : FH), c4 = .go b2 ∧ Sub H H1 ∧ St H1 w ([(b1, .cells ([s1]).toArray 47)] ++ L) ∧ RdSl yT H1 s1 a1 ∧ ev f (.tmp 6) = vI b2) rfl ?_ ?_ K ?_ ?_
 rintro f w ⟨a4, a3, H1, a5, _⟩
 rw [g_impl_degreeOf_l0] at a5; cases a5
 rintro k e9 f0 e3 e4 ⟨a4, a3, d8, a5, hsub, hS, e1, b3, a8, b9, c0, b4, b5, b0⟩
 rw [g_impl_degreeOf_l0] at a5
 refine run_seq (run_region ?_)
 refine r_lss (k := .i64) (a := a3) (b := (a1.length : Int)) (by exact b0) (by exact b5) rfl ?_
 refine reg_nil (run_seq ?_)
 by_cases c7 : a3 < (a1.length : Int)
 rw [if_pos c7] at a5
 refine run_cond_true (Eq.trans rfl (congrArg Value.bool (decide_eq_true c7))) ?_
 refine run_skip (run_seq ?_)
 refine run_block (run_seq ?_)
 refine run_region ?_
 obtain ⟨b6, o6, f5, E6, _, e5, e6, ⟨_, _, rfl, rfl, rfl⟩, e7⟩ := a8.elem (i := a3) (by omega) (by omega)
 refine r_indexAt sl45 rfl (by exact b4) e5 (by exact b0) (by omega) (by omega) rfl ?_
 refine r_loadAgg (enc8 .u8 ((rd a1 a3).1) ++ [vI ((rd a1 a3).2)]) ty76 rfl (hS.froz _ _ e6) rfl e7 rfl ?_
 refine r_alloc (z := Value.agg (enc8 .u8 (fun _ => 0) ++ [vI 0]).toArray) (enc8 .u8 (fun _ => 0) ++ [vI 0]).toArray ze76.zero rfl hS rfl ?_
 intro b7 w8 hS
 refine r_storeAll (v := Value.agg (enc8 .u8 ((rd a1 a3).1) ++ [vI ((rd a1 a3).2)]).toArray) (vs := (enc8 .u8 ((rd a1 a3).1) ++ [vI ((rd a1 a3).2)]).toArray) (cs := (enc8 .u8 (fun _ => 0) ++ [vI 0]).toArray) ty76 rfl rfl rfl hS rfl (one_app (enc8_one .u8 ((rd a1 a3).1)) (one1 rfl)) rfl ?_
 intro f6 hS
 refine reg_nil (run_seq ?_)
 refine run_region ?_
 refine r_fieldAddr fld76_0 rfl rfl ?_
 refine r_loadAgg (enc8 .u8 ((rd a1 a3).1)) ty70 rfl (hS.get (o := .cells (enc8 .u8 ((rd a1 a3).1) ++ [vI ((rd a1 a3).2)]).toArray 76) mL) rfl (fun j hj => sub_box ([]) (enc8 .u8 ((rd a1 a3).1)) (([vI ((rd a1 a3).2)])) j hj) rfl ?_
 obtain ⟨d5, d9, a5⟩ := bind_some a5
 refine r_callFn Tryz.call176 (args1 rfl) rfl (g_impl_powerOf_ok d9  hS) ?_
 rintro f7 f8 ⟨f9, g0, rfl, c5, hS, ⟨_, rfl, rfl⟩⟩
 refine ⟨_, rfl, ?_⟩
 have hsub := hsub.trans c5
 have b3 := b3.mono c5
 have a8 := a8.mono c5
 refine r_move (s0) (by exact b9) rfl ?_
 obtain ⟨a6, e0, a5⟩ := bind_some a5
 refine r_callFn Tryz.call223 (args2 rfl rfl) rfl (g_impl_power_degree_ok e0 b3 hS) ?_
 rintro g1 g2 ⟨_, d6, rfl, c6, hS, rfl⟩
 refine ⟨_, rfl, ?_⟩
 have hsub := hsub.trans c6
 have b3 := b3.mono c6
 have a8 := a8.mono c6
 refine r_assign (vI a6) rfl rfl ?_
 refine reg_nil (run_seq ?_)
 refine run_seq ?_
 refine run_cut (fun f w => ∃ (a7 : Bool) (H1 : FH), g_impl_degreeOf_j4 K (g_impl_degreeOf_l0 K a0 a1 k) a6 a3 a7 = some c4 ∧ Sub H H1 ∧ St H1 w ([(b7, .cells (enc8 .u8 ((rd a1 a3).1) ++ [vI ((rd a1 a3).2)]).toArray 76)] ++ ([(b1, .cells ([s1]).toArray 47)] ++ L)) ∧ RdSl (tyInt .i64) H1 s0 a0 ∧ RdSl yT H1 s1 a1 ∧ ev f (.tmp 0) = s0 ∧ ev f (.tmp 9) = vI a6 ∧ ev f (.tmp 11) = s1 ∧ ev f (.tmp 12) = vI (a1.length : Int) ∧ ev f (.tmp 13) = vI a3 ∧ ev f (.tmp 28) = Value.bool a7) ?_ ?_
 rintro g3 e8 ⟨a7, d4, b8, hsub, hS, b3, a8, d2, d3, c8, c9, d0, c1⟩
 unfold g_impl_degreeOf_j4 at b8
 by_cases c3 : a7 = true
 rw [if_pos c3] at b8
 refine run_cond_true (Eq.trans (by exact c1) (congrArg Value.bool c3)) ?_
 refine run_seq (run_region ?_)
 refine r_assign (vI 0) rfl rfl ?_
 refine r_assign (Value.bool false) rfl rfl ?_
 refine reg_nil ?_
 refine run_ret (vs := [vI 0, Value.bool false]) Tryz.func130 ⟨rfl, rfl, trivial⟩ ?_
 have hz := Option.some.inj b8
 subst hz
 dsimp only [Ex.elim] at c2
 have hz := Option.some.inj c2
 subst hz
 exact ⟨_, _, rfl, hsub, (St.dropA (A := [(b1, .cells ([s1]).toArray 47)]) (St.dropA (A := [(b7, .cells (enc8 .u8 ((rd a1 a3).1) ++ [vI ((rd a1 a3).2)]).toArray 76)]) hS)), ⟨_, _, rfl, rfl, rfl⟩⟩
 rw [if_neg c3] at b8
 refine run_cond_false (Eq.trans (by exact c1) (congrArg Value.bool (bfalse c3))) ?_
 refine run_skip (run_region ?_)
 refine r_move (vI a6) (by exact d3) rfl ?_
 refine r_assign (vI a6) rfl rfl ?_
 refine reg_nil (run_inBlock ?_)
 refine run_region ?_
 refine r_add (a3 + 1) (by exact d0) rfl (IntWalk.i64_in _ (by omega)) rfl ?_
 refine r_move (vI (a3 + 1)) rfl rfl ?_
 refine reg_nil ?_
 have hS := St.dropA (A := [(b7, .cells (enc8 .u8 ((rd a1 a3).1) ++ [vI ((rd a1 a3).2)]).toArray 76)]) hS
 exact e3 _ _ ⟨a6, (a3 + 1), d4, b8, hsub, hS, (by omega), b3, a8, d2, rfl, c8, c9, rfl⟩
 intro d7
 refine run_region ?_
 refine r_move (vI a4) (by exact c0) rfl ?_
 refine r_geq (k := .i64) (a := a4) (b := 0) rfl rfl rfl ?_
 refine r_move (Value.bool (decide (0 ≤ a4))) rfl rfl ?_
 by_cases a9 : 0 ≤ a4
 rw [if_pos a9] at a5
 refine reg_guard rfl rfl (Eq.trans rfl (congrArg Value.bool (decide_eq_true a9))) ?_
 refine r_move (vI a6) rfl rfl ?_
 refine reg_guard rfl rfl (Eq.trans rfl (congrArg Value.bool (decide_eq_true a9))) ?_
 refine r_move (vI a4) (by exact c0) rfl ?_
 refine reg_guard rfl rfl (Eq.trans rfl (congrArg Value.bool (decide_eq_true a9))) ?_
 refine r_neq (k := .i64) (a := a6) (b := a4) rfl rfl rfl ?_
 refine r_pick (t := true) (Value.bool (!decide (a6 = a4))) (Eq.trans rfl (congrArg Value.bool (decide_eq_true a9))) ((if_pos rfl).trans rfl) rfl ?_
 refine reg_nil ?_
 exact d7 _ _ ⟨(!decide (a6 = a4)), d6, a5, hsub, hS, b3, a8, b9, rfl, b4, b5, b0, rfl⟩
 rw [if_neg a9] at a5
 refine reg_unguard rfl rfl (Eq.trans rfl (congrArg Value.bool (decide_eq_false a9))) rfl rfl rfl ?_
 refine reg_unguard rfl rfl (Eq.trans rfl (congrArg Value.bool (decide_eq_false a9))) rfl rfl rfl ?_
 refine reg_unguard rfl rfl (Eq.trans rfl (congrArg Value.bool (decide_eq_false a9))) rfl rfl rfl ?_
 refine r_pick (t := false) (Value.bool false) (Eq.trans rfl (congrArg Value.bool (decide_eq_false a9))) ((if_neg Bool.false_ne_true).trans rfl) rfl ?_
 refine reg_nil ?_
 exact d7 _ _ ⟨false, d6, a5, hsub, hS, b3, a8, b9, rfl, b4, b5, b0, rfl⟩
 rw [if_neg c7] at a5
 refine run_cond_false (Eq.trans rfl (congrArg Value.bool (decide_eq_false c7))) ?_
 refine run_exit rfl ?_
 have hz := Option.some.inj a5
 subst hz
 exact e4 _ _ ⟨a4, d8, rfl, hsub, hS, a8, c0⟩
 exact ⟨(-1), 0, H, a5, hsub, hS, (by omega), b3, a8, rfl, rfl, rfl, rfl, rfl⟩
 rintro f1 f2 ⟨b2, f3, rfl, hsub, hS, a8, d1⟩
 dsimp only [Ex.elim] at c2
 refine run_seq (run_region ?_)
 refine r_move (vI b2) (by exact d1) rfl ?_
 refine r_assign (vI b2) rfl rfl ?_
 refine r_assign (Value.bool true) rfl rfl ?_
 refine reg_nil ?_
 refine run_ret (vs := [vI b2, Value.bool true]) Tryz.func130 ⟨rfl, rfl, trivial⟩ ?_
 have hz := Option.some.inj c2
 subst hz
 exact ⟨_, _, rfl, hsub, (St.dropA (A := [(b1, .cells ([s1]).toArray 47)]) hS), ⟨_, _, rfl, rfl, rfl⟩⟩
def g_spec_l01Degree_l0 (K : Nat) (a0 : (List Int)) (a1 : MpT) (r8 : Int) : Nat → Int → Option (Ex (Int × Bool) (Unit))
 | 0, _ => none
 | k + 1, a3 => (if a3 < (a1.length : Int) then ((g_spec_l01Weight K a0 ((rd a1 a3).1)).bind fun b6 => (if b6 = r8 then g_spec_l01Degree_l0 K a0 a1 r8 k (a3 + 1) else some (.ret (0, false)))) else some (.go ()))
def g_spec_l01Degree (K : Nat) (a0 : (List Int)) (a1 : MpT) : Option (Int × Bool) := (if (a1.length : Int) = 0 then some ((-1), true) else (if 0 < (a1.length : Int) then ((g_spec_l01Weight K a0 ((rd a1 0).1)).bind fun r8 => ((g_spec_l01Degree_l0 K a0 a1 r8 K 1).bind (Ex.elim (fun r => some r) (fun s => some (r8, true))))) else none))
set_option maxRecDepth 100000 in
set_option maxHeartbeats 1000000 in
theorem g_spec_l01Degree_ok {K : Nat} {a0 : (List Int)} {a1 : MpT} {r : (Int × Bool)} (q0 : g_spec_l01Degree K a0 a1 = some r) {H : FH} {w : World} {L : OL} {s0 : Value} {s1 : Value} (a6 : RdSl (tyInt .i64) H s0 a0) (a5 : RdSl yT H s1 a1) (hS : St H w L) :
 Calls Tryz.prog 140 #[s0, Value.agg ([s1]).toArray] w (Done (fun v G => (R.t2 (R.int .i64) R.bool).p G v r) H L) := by
 have hsub := Sub.refl H
 refine calls_of_run Tryz.func140 rfl Tryz.ntmps140 rfl ?_
 unfold g_spec_l01Degree at q0
 refine run_seq (run_region ?_)
 refine r_box (v := Value.agg ([s1]).toArray) ([s1]).toArray rfl rfl hS rfl ?_
 intro b1 w2 hS
 refine r_assign (vI 0) rfl rfl ?_
 refine r_assign (Value.bool false) rfl rfl ?_
 refine reg_nil (run_seq ?_)
 refine run_seq (run_region ?_)
 refine r_fieldAddr fld47_0 rfl rfl ?_
 refine r_loadOne (s1) ty45 rfl (hS.get mL) rfl rfl ?_
 have e2 := a5.bound
 refine r_lenRd sl45 rfl a5 rfl ?_
 refine r_eql (k := .i64) (a := (a1.length : Int)) (b := 0) rfl rfl rfl ?_
 refine reg_nil ?_
 by_cases b8 : (a1.length : Int) = 0
 rw [if_pos b8] at q0
 refine run_cond_true (Eq.trans rfl (congrArg Value.bool (decide_eq_true b8))) ?_
 refine run_seq (run_region ?_)
 refine r_assign (vI (-1)) rfl rfl ?_
 refine r_assign (Value.bool true) rfl rfl ?_
 refine reg_nil ?_
 refine run_ret (vs := [vI (-1), Value.bool true]) Tryz.func140 ⟨rfl, rfl, trivial⟩ ?_
 have hz := Option.some.inj q0
 subst hz
 exact ⟨_, _, rfl, hsub, (St.dropA (A := [(b1, .cells ([s1]).toArray 47)]) hS), ⟨_, _, rfl, rfl, rfl⟩⟩
 rw [if_neg b8] at q0
 refine run_cond_false (Eq.trans rfl (congrArg Value.bool (decide_eq_false b8))) ?_
 refine run_skip (run_seq ?_)
 refine run_region ?_
 refine r_move (s0) rfl rfl ?_
 refine r_fieldAddr fld47_0 rfl rfl ?_
 refine r_loadOne (s1) ty45 rfl (hS.get mL) rfl rfl ?_
 obtain ⟨e3, q0⟩ := gd q0
 obtain ⟨b7, o7, e4, E7, _, c7, c8, ⟨_, _, rfl, rfl, rfl⟩, c9⟩ := a5.elem (i := 0) (by omega) (by omega)
 refine r_indexAt sl45 rfl rfl c7 rfl (by omega) (by omega) rfl ?_
 refine r_fieldAddr fld76_0 rfl rfl ?_
 refine r_loadAgg (enc8 .u8 ((rd a1 0).1)) ty70 rfl (hS.froz _ _ c8) rfl (sub_cells ([]) (enc8 .u8 ((rd a1 0).1)) (([vI ((rd a1 0).2)])) c9 (Nat.le_of_ble_eq_true rfl)) rfl ?_
 obtain ⟨r8, d0, q0⟩ := bind_some q0
 refine r_callFn Tryz.call216 (args2 rfl rfl) rfl (g_spec_l01Weight_ok d0 a6 hS) ?_
 rintro e8 w9 ⟨_, H8, rfl, c0, hS, rfl⟩
 refine ⟨_, rfl, ?_⟩
 have hsub := hsub.trans c0
 have a6 := a6.mono c0
 have a5 := a5.mono c0
 refine r_assign (vI r8) rfl rfl ?_
 refine reg_nil (run_seq ?_)
 refine run_seq (run_region ?_)
 refine r_assign (vI 1) rfl rfl ?_
 refine reg_nil (run_block ?_)
 obtain ⟨c1, a4, b2⟩ := bind_some q0
 refine loop_ind (id := 0) (fun k f w => ∃ (a3 : Int) (H1 : FH), g_spec_l01Degree_l0 K a0 a1 r8 k a3 = some c1 ∧ Sub H H1 ∧ St H1 w ([(b1, .cells ([s1]).toArray 47)] ++ L) ∧ 0 ≤ a3 ∧ RdSl (tyInt .i64) H1 s0 a0 ∧ RdSl yT H1 s1 a1 ∧ ev f (.tmp 0) = s0 ∧ ev f (.tmp 3) = vP b1 ∧ ev f (.tmp 6) = vI r8 ∧ ev f (.tmp 7) = vI a3) (fun f w => ∃ (H1 : FH), c1 = .go () ∧ Sub H H1 ∧ St H1 w ([(b1, .cells ([s1]).toArray 47)] ++ L) ∧ RdSl yT H1 s1 a1 ∧ ev f (.tmp 6) = vI r8) rfl ?_ ?_ K ?_ ?_
 rintro f w ⟨a3, H1, a4, _⟩
 rw [g_spec_l01Degree_l0] at a4; cases a4
 rintro k d5 d6 d1 d2 ⟨a3, c2, a4, hsub, hS, d3, a6, a5, b0, a7, a8, a9⟩
 rw [g_spec_l01Degree_l0] at a4
 refine run_seq (run_seq (run_region ?_))
 refine r_move (vI a3) (by exact a9) rfl ?_
 refine r_fieldAddr fld47_0 (by exact a7) rfl ?_
 refine r_loadOne (s1) ty45 rfl (hS.get mL) rfl rfl ?_
 have d7 := a5.bound
 refine r_lenRd sl45 rfl a5 rfl ?_
 refine r_lss (k := .i64) (a := a3) (b := (a1.length : Int)) rfl rfl rfl ?_
 refine reg_nil ?_
 by_cases b3 : a3 < (a1.length : Int)
 rw [if_pos b3] at a4
 refine run_cond_true (Eq.trans rfl (congrArg Value.bool (decide_eq_true b3))) ?_
 refine run_skip (run_seq ?_)
 refine run_block (run_seq ?_)
 refine run_region ?_
 refine r_move (s0) (by exact b0) rfl ?_
 refine r_fieldAddr fld47_0 (by exact a7) rfl ?_
 refine r_loadOne (s1) ty45 rfl (hS.get mL) rfl rfl ?_
 refine r_move (vI a3) (by exact a9) rfl ?_
 obtain ⟨e5, e6, d8, e7, _, c3, c4, ⟨_, _, rfl, rfl, rfl⟩, c5⟩ := a5.elem (i := a3) (by omega) (by omega)
 refine r_indexAt sl45 rfl rfl c3 rfl (by omega) (by omega) rfl ?_
 refine r_fieldAddr fld76_0 rfl rfl ?_
 refine r_loadAgg (enc8 .u8 ((rd a1 a3).1)) ty70 rfl (hS.froz _ _ c4) rfl (sub_cells ([]) (enc8 .u8 ((rd a1 a3).1)) (([vI ((rd a1 a3).2)])) c5 (Nat.le_of_ble_eq_true rfl)) rfl ?_
 obtain ⟨b6, c6, a4⟩ := bind_some a4
 refine r_callFn Tryz.call216 (args2 rfl rfl) rfl (g_spec_l01Weight_ok c6 a6 hS) ?_
 rintro e9 f0 ⟨_, d4, rfl, b5, hS, rfl⟩
 refine ⟨_, rfl, ?_⟩
 have hsub := hsub.trans b5
 have a6 := a6.mono b5
 have a5 := a5.mono b5
 refine r_move (vI r8) (by exact a8) rfl ?_
 refine r_neq (k := .i64) (a := b6) (b := r8) rfl rfl rfl ?_
 refine reg_nil ?_
 by_cases b4 : b6 = r8
 rw [if_pos b4] at a4
 refine run_cond_false (Eq.trans rfl (congrArg (fun b => Value.bool (!b)) (decide_eq_true b4))) ?_
 refine run_skip (run_inBlock ?_)
 refine run_region ?_
 refine r_move (vI a3) (by exact a9) rfl ?_
 refine r_add (a3 + 1) rfl rfl (IntWalk.i64_in _ (by omega)) rfl ?_
 refine r_assign (vI (a3 + 1)) rfl rfl ?_
 refine reg_nil ?_
 exact d1 _ _ ⟨(a3 + 1), d4, a4, hsub, hS, (by omega), a6, a5, b0, a7, a8, rfl⟩
 rw [if_neg b4] at a4
 refine run_cond_true (Eq.trans rfl (congrArg (fun b => Value.bool (!b)) (decide_eq_false b4))) ?_
 refine run_seq (run_region ?_)
 refine r_assign (vI 0) rfl rfl ?_
 refine r_assign (Value.bool false) rfl rfl ?_
 refine reg_nil ?_
 refine run_ret (vs := [vI 0, Value.bool false]) Tryz.func140 ⟨rfl, rfl, trivial⟩ ?_
 have hz := Option.some.inj a4
 subst hz
 dsimp only [Ex.elim] at b2
 have hz := Option.some.inj b2
 subst hz
 exact ⟨_, _, rfl, hsub, (St.dropA (A := [(b1, .cells ([s1]).toArray 47)]) hS), ⟨_, _, rfl, rfl, rfl⟩⟩
 rw [if_neg b3] at a4
 refine run_cond_false (Eq.trans rfl (congrArg Value.bool (decide_eq_false b3))) ?_
 refine run_exit rfl ?_
 have hz := Option.some.inj a4
 subst hz
 exact d2 _ _ ⟨c2, rfl, hsub, hS, a5, a8⟩
 exact ⟨1, H8, a4, hsub, hS, (by omega), a6, a5, rfl, rfl, rfl, rfl⟩
 rintro d9 e0 ⟨e1, rfl, hsub, hS, a5, b9⟩
 dsimp only [Ex.elim] at b2
 refine run_seq (run_region ?_)
 refine r_move (vI r8) (by exact b9) rfl ?_
 refine r_assign (vI r8) rfl rfl ?_
 refine r_assign (Value.bool true) rfl rfl ?_
 refine reg_nil ?_
 refine run_ret (vs := [vI r8, Value.bool true]) Tryz.func140 ⟨rfl, rfl, trivial⟩ ?_
 have hz := Option.some.inj b2
 subst hz
 exact ⟨_, _, rfl, hsub, (St.dropA (A := [(b1, .cells ([s1]).toArray 47)]) hS), ⟨_, _, rfl, rfl, rfl⟩⟩
def g_laws_heldFormS_l0 (K : Nat) (a0 : (List MpT)) : Nat → Int → Int → Option (Ex Int (Int))
 | 0, _, _ => none
 | k + 1, a5, a3 => (if a3 < (a0.length : Int) then ((g_laws_heldTermS K (rd a0 a3) a5).bind fun r4 => (if r4 < 0 then some (.ret (-1)) else g_laws_heldFormS_l0 K a0 k r4 (a3 + 1))) else some (.go a5))
def g_laws_heldFormS (K : Nat) (a0 : (List MpT)) (a1 : Int) : Option Int := ((g_laws_heldFormS_l0 K a0 K a1 0).bind (Ex.elim (fun r => some r) (fun s => (fun (a6 : Int) => some a6) s)))
set_option maxRecDepth 100000 in
set_option maxHeartbeats 1000000 in
theorem g_laws_heldFormS_ok {K : Nat} {a0 : (List MpT)} {a1 : Int} {r : Int} (q0 : g_laws_heldFormS K a0 a1 = some r) {H : FH} {w : World} {L : OL} {s0 : Value} (a9 : RdSl (tySl yT) H s0 a0) (hS : St H w L) :
 Calls Tryz.prog 72 #[s0, vI a1] w (Done (fun v G => (R.int .i64).p G v r) H L) := by
 have hsub := Sub.refl H
 refine calls_of_run Tryz.func72 rfl Tryz.ntmps72 rfl ?_
 unfold g_laws_heldFormS at q0
 refine run_seq (run_region ?_)
 refine r_assign (vI 0) rfl rfl ?_
 refine reg_nil (run_seq ?_)
 refine run_seq (run_region ?_)
 refine r_assign (vI 0) rfl rfl ?_
 refine reg_nil (run_block ?_)
 obtain ⟨b6, a4, b1⟩ := bind_some q0
 refine loop_ind (id := 0) (fun k f w => ∃ (a5 : Int) (a3 : Int) (H1 : FH), g_laws_heldFormS_l0 K a0 k a5 a3 = some b6 ∧ Sub H H1 ∧ St H1 w (L) ∧ 0 ≤ a3 ∧ RdSl (tySl yT) H1 s0 a0 ∧ ev f (.tmp 0) = s0 ∧ ev f (.tmp 1) = vI a5 ∧ ev f (.tmp 5) = vI a3) (fun f w => ∃ (a6 : Int) (H1 : FH), b6 = .go a6 ∧ Sub H H1 ∧ St H1 w (L) ∧ ev f (.tmp 1) = vI a6) rfl ?_ ?_ K ?_ ?_
 rintro f w ⟨a5, a3, H1, a4, _⟩
 rw [g_laws_heldFormS_l0] at a4; cases a4
 rintro k c8 c9 c1 c2 ⟨a5, a3, b9, a4, hsub, hS, c3, a9, a7, b0, a8⟩
 rw [g_laws_heldFormS_l0] at a4
 refine run_seq (run_seq (run_region ?_))
 refine r_move (vI a3) (by exact a8) rfl ?_
 refine r_move (s0) (by exact a7) rfl ?_
 have d3 := a9.bound
 refine r_lenRd sl27 rfl a9 rfl ?_
 refine r_lss (k := .i64) (a := a3) (b := (a0.length : Int)) rfl rfl rfl ?_
 refine reg_nil ?_
 by_cases b2 : a3 < (a0.length : Int)
 rw [if_pos b2] at a4
 refine run_cond_true (Eq.trans rfl (congrArg Value.bool (decide_eq_true b2))) ?_
 refine run_skip (run_seq ?_)
 refine run_block (run_seq ?_)
 refine run_region ?_
 refine r_move (s0) (by exact a7) rfl ?_
 refine r_move (vI a3) (by exact a8) rfl ?_
 obtain ⟨b3, o3, d4, E3, _, c4, c5, ⟨c0, rfl, b7⟩, c6⟩ := a9.elem (i := a3) (by omega) (by omega)
 refine r_indexAt sl27 rfl rfl c4 rfl (by omega) (by omega) rfl ?_
 refine r_fieldAddr fld47_0 rfl rfl ?_
 refine r_loadOne (c0) ty45 rfl (hS.froz _ _ c5) (c6 0 (show 0 < 1 by decide)) rfl ?_
 refine r_move (vI a5) (by exact b0) rfl ?_
 obtain ⟨r4, c7, a4⟩ := bind_some a4
 refine r_callFn Tryz.call118 (args2 rfl rfl) rfl (g_laws_heldTermS_ok c7 b7 hS) ?_
 rintro e4 w5 ⟨_, H4, rfl, b8, hS, rfl⟩
 refine ⟨_, rfl, ?_⟩
 have hsub := hsub.trans b8
 have a9 := a9.mono b8
 refine r_assign (vI r4) rfl rfl ?_
 refine reg_nil (run_seq ?_)
 refine run_region ?_
 refine r_move (vI r4) rfl rfl ?_
 refine r_lss (k := .i64) (a := r4) (b := 0) rfl rfl rfl ?_
 refine reg_nil ?_
 by_cases b4 : r4 < 0
 rw [if_pos b4] at a4
 refine run_cond_true (Eq.trans rfl (congrArg Value.bool (decide_eq_true b4))) ?_
 refine run_seq (run_region ?_)
 refine r_assign (vI (-1)) rfl rfl ?_
 refine reg_nil ?_
 refine run_ret (vs := [vI (-1)]) Tryz.func72 ⟨rfl, trivial⟩ ?_
 have hz := Option.some.inj a4
 subst hz
 dsimp only [Ex.elim] at b1
 have hz := Option.some.inj b1
 subst hz
 exact ⟨_, _, rfl, hsub, hS, rfl⟩
 rw [if_neg b4] at a4
 refine run_cond_false (Eq.trans rfl (congrArg Value.bool (decide_eq_false b4))) ?_
 refine run_skip (run_inBlock ?_)
 refine run_region ?_
 refine r_move (vI a3) (by exact a8) rfl ?_
 refine r_add (a3 + 1) rfl rfl (IntWalk.i64_in _ (by omega)) rfl ?_
 refine r_assign (vI (a3 + 1)) rfl rfl ?_
 refine reg_nil ?_
 exact c1 _ _ ⟨r4, (a3 + 1), H4, a4, hsub, hS, (by omega), a9, a7, rfl, rfl⟩
 rw [if_neg b2] at a4
 refine run_cond_false (Eq.trans rfl (congrArg Value.bool (decide_eq_false b2))) ?_
 refine run_exit rfl ?_
 have hz := Option.some.inj a4
 subst hz
 exact c2 _ _ ⟨a5, b9, rfl, hsub, hS, b0⟩
 exact ⟨a1, 0, H, a4, hsub, hS, (by omega), a9, rfl, rfl, rfl⟩
 rintro d0 d1 ⟨a6, d2, rfl, hsub, hS, b5⟩
 dsimp only [Ex.elim] at b1
 refine run_seq (run_region ?_)
 refine r_move (vI a6) (by exact b5) rfl ?_
 refine r_assign (vI a6) rfl rfl ?_
 refine reg_nil ?_
 refine run_ret (vs := [vI a6]) Tryz.func72 ⟨rfl, trivial⟩ ?_
 have hz := Option.some.inj b1
 subst hz
 exact ⟨_, _, rfl, hsub, hS, rfl⟩
def g_impl_sum_add (K : Nat) (a0 : MpT) (a1 : A8) (a2 : Int) : Option MpT := (if nfm a0 = true ∧ -4611686018427387904 ≤ a2 ∧ a2 ≤ 4611686018427387904 then ((g_impl_field K (IntKind.i64.wrap ((mget a0 a1) + a2))).bind fun r4 => (if r4 = 0 then some (mdel a0 a1) else some (mput a0 a1 r4))) else none)
set_option maxRecDepth 100000 in
set_option maxHeartbeats 1000000 in
theorem g_impl_sum_add_ok {K : Nat} {a0 : MpT} {a1 : A8} {a2 : Int} {r : MpT} (q0 : g_impl_sum_add K a0 a1 a2 = some r) {H : FH} {w : World} {L C0 : OL} {s0 : Value} (a3 : OwnMp .i64 s0 a0 C0) (hS : St H w (C0 ++ L)) :
 Calls Tryz.prog 225 #[s0, Value.agg (enc8 .i64 a1).toArray, vI a2] w (DoneP .i64 s0 r H L) := by
 have hsub := Sub.refl H
 refine calls_of_run Tryz.func225 rfl Tryz.ntmps225 rfl ?_
 unfold g_impl_sum_add at q0
 obtain ⟨hG, q0⟩ := gd q0
 refine run_seq (run_region ?_)
 refine r_box (v := Value.agg (enc8 .i64 a1).toArray) (enc8 .i64 a1).toArray rfl rfl hS rfl ?_
 intro b1 w2 hS
 refine reg_nil (run_seq ?_)
 refine run_region ?_
 refine r_move (s0) rfl rfl ?_
 refine r_loadAll ty188 rfl (hS.get mL) rfl rfl ?_
 have hS : St H w2 (C0 ++ ([(b1, .cells (enc8 .i64 a1).toArray 188)] ++ L)) := hS.perm (perm1 (A1 := [(b1, .cells (enc8 .i64 a1).toArray 188)]))
 refine r_lookupO (a := a1) mp109 rfl rfl a3 hS rfl ?_
 have hS : St H w2 ([(b1, .cells (enc8 .i64 a1).toArray 188)] ++ (C0 ++ L)) := hS.perm (perm1 (A1 := [(b1, .cells (enc8 .i64 a1).toArray 188)])).symm
 refine r_move (vI a2) rfl rfl ?_
 refine r_add (IntKind.i64.wrap ((mget a0 a1) + a2)) rfl rfl rfl rfl ?_
 obtain ⟨r4, a9, q0⟩ := bind_some q0
 refine r_callFn Tryz.call215 (args1 rfl) rfl (g_impl_field_ok a9  hS) ?_
 rintro e4 w5 ⟨_, H4, rfl, a6, hS, rfl⟩
 refine ⟨_, rfl, ?_⟩
 have hsub := hsub.trans a6
 have a3 := a3.mono a6
 refine r_assign (vI r4) rfl rfl ?_
 refine reg_nil (run_seq ?_)
 refine run_region ?_
 refine r_move (vI r4) rfl rfl ?_
 refine r_neq (k := .i64) (a := r4) (b := 0) rfl rfl rfl ?_
 refine reg_nil ?_
 by_cases a4 : r4 = 0
 rw [if_pos a4] at q0
 refine run_cond_false (Eq.trans rfl (congrArg (fun b => Value.bool (!b)) (decide_eq_true a4))) ?_
 refine run_region ?_
 refine r_move (s0) rfl rfl ?_
 refine r_loadAll ty188 rfl (hS.get mL) rfl rfl ?_
 have hS : St H4 w5 (C0 ++ ([(b1, .cells (enc8 .i64 a1).toArray 188)] ++ L)) := hS.perm (perm1 (A1 := [(b1, .cells (enc8 .i64 a1).toArray 188)]))
 refine r_delete (a := a1) mp109 rfl rfl a3 hS ?_
 intro w7 C8 b0 hS
 have hS : St H4 w7 ([(b1, .cells (enc8 .i64 a1).toArray 188)] ++ (C8 ++ L)) := hS.perm (perm1 (A1 := [(b1, .cells (enc8 .i64 a1).toArray 188)])).symm
 refine reg_nil ?_
 refine run_end (vs := []) Tryz.func225 trivial ?_
 have hS : St H4 w7 (C8 ++ ([(b1, .cells (enc8 .i64 a1).toArray 188)] ++ L)) := hS.perm (perm1 (A1 := [(b1, .cells (enc8 .i64 a1).toArray 188)]))
 have hS := St.dropMid (A := C8) (B := [(b1, .cells (enc8 .i64 a1).toArray 188)]) hS
 have hz := Option.some.inj q0
 subst hz
 exact ⟨_, _, rfl, hsub, hS, b0⟩
 rw [if_neg a4] at q0
 refine run_cond_true (Eq.trans rfl (congrArg (fun b => Value.bool (!b)) (decide_eq_false a4))) ?_
 refine run_region ?_
 refine r_move (s0) rfl rfl ?_
 refine r_loadAll ty188 rfl (hS.get mL) rfl rfl ?_
 refine r_move (vI r4) rfl rfl ?_
 have hS : St H4 w5 (C0 ++ ([(b1, .cells (enc8 .i64 a1).toArray 188)] ++ L)) := hS.perm (perm1 (A1 := [(b1, .cells (enc8 .i64 a1).toArray 188)]))
 refine r_mapUpdate (a := a1) (m := r4) mp109 rfl rfl rfl a3 hS ?_
 intro a7 a5 a8 hS
 have hS : St H4 a7 ([(b1, .cells (enc8 .i64 a1).toArray 188)] ++ (a5 ++ L)) := hS.perm (perm1 (A1 := [(b1, .cells (enc8 .i64 a1).toArray 188)])).symm
 refine reg_nil ?_
 refine run_end (vs := []) Tryz.func225 trivial ?_
 have hS : St H4 a7 (a5 ++ ([(b1, .cells (enc8 .i64 a1).toArray 188)] ++ L)) := hS.perm (perm1 (A1 := [(b1, .cells (enc8 .i64 a1).toArray 188)]))
 have hS := St.dropMid (A := a5) (B := [(b1, .cells (enc8 .i64 a1).toArray 188)]) hS
 have hz := Option.some.inj q0
 subst hz
 exact ⟨_, _, rfl, hsub, hS, a8⟩
def g_laws_eqTerm (K : Nat) (a0 : (A8 × Int)) (a1 : (A8 × Int)) : Option Bool := ((g_laws_eqMonomial K a0.1 a1.1).bind fun r7 => (if r7 = true then (if a0.2 = a1.2 then some true else some false) else some false))
set_option maxRecDepth 100000 in
set_option maxHeartbeats 1000000 in
theorem g_laws_eqTerm_ok {K : Nat} {a0 : (A8 × Int)} {a1 : (A8 × Int)} {r : Bool} (q0 : g_laws_eqTerm K a0 a1 = some r) {H : FH} {w : World} {L : OL} (hS : St H w L) :
 Calls Tryz.prog 201 #[Value.agg (enc8 .u8 a0.1 ++ [vI a0.2]).toArray, Value.agg (enc8 .u8 a1.1 ++ [vI a1.2]).toArray] w (Done (fun v G => R.bool.p G v r) H L) := by
 have hsub := Sub.refl H
 refine calls_of_run Tryz.func201 rfl Tryz.ntmps201 rfl ?_
 unfold g_laws_eqTerm at q0
 refine run_seq (run_region ?_)
 refine r_box (v := Value.agg (enc8 .u8 a0.1 ++ [vI a0.2]).toArray) (enc8 .u8 a0.1 ++ [vI a0.2]).toArray rfl rfl hS rfl ?_
 intro b1 w2 hS
 refine r_box (v := Value.agg (enc8 .u8 a1.1 ++ [vI a1.2]).toArray) (enc8 .u8 a1.1 ++ [vI a1.2]).toArray rfl rfl hS rfl ?_
 intro b4 w5 hS
 refine r_assign (Value.bool false) rfl rfl ?_
 refine reg_nil (run_seq ?_)
 refine run_seq (run_region ?_)
 refine r_fieldAddr fld76_0 rfl rfl ?_
 refine r_loadAgg (enc8 .u8 a0.1) ty70 rfl (hS.get (o := .cells (enc8 .u8 a0.1 ++ [vI a0.2]).toArray 76) (mR mL)) rfl (fun j hj => sub_box ([]) (enc8 .u8 a0.1) (([vI a0.2])) j hj) rfl ?_
 refine r_fieldAddr fld76_0 rfl rfl ?_
 refine r_loadAgg (enc8 .u8 a1.1) ty70 rfl (hS.get (o := .cells (enc8 .u8 a1.1 ++ [vI a1.2]).toArray 76) mL) rfl (fun j hj => sub_box ([]) (enc8 .u8 a1.1) (([vI a1.2])) j hj) rfl ?_
 obtain ⟨r7, a5, q0⟩ := bind_some q0
 refine r_callFn Tryz.call268 (args2 rfl rfl) rfl (g_laws_eqMonomial_ok a5  hS) ?_
 rintro e7 w8 ⟨_, H7, rfl, a6, hS, rfl⟩
 refine ⟨_, rfl, ?_⟩
 have hsub := hsub.trans a6
 refine r_not (b := r7) rfl rfl ?_
 refine reg_nil ?_
 by_cases a4 : r7 = true
 rw [if_pos a4] at q0
 refine run_cond_false (Eq.trans rfl (congrArg (fun b => Value.bool (!b)) a4)) ?_
 refine run_skip (run_seq ?_)
 refine run_seq (run_region ?_)
 refine r_fieldAddr fld76_1 rfl rfl ?_
 refine r_loadOne (vI a0.2) ty2 rfl (hS.get (mR mL)) rfl rfl ?_
 refine r_fieldAddr fld76_1 rfl rfl ?_
 refine r_loadOne (vI a1.2) ty2 rfl (hS.get mL) rfl rfl ?_
 refine r_neq (k := .i64) (a := a0.2) (b := a1.2) rfl rfl rfl ?_
 refine reg_nil ?_
 by_cases a3 : a0.2 = a1.2
 rw [if_pos a3] at q0
 refine run_cond_false (Eq.trans rfl (congrArg (fun b => Value.bool (!b)) (decide_eq_true a3))) ?_
 refine run_skip (run_seq ?_)
 refine run_region ?_
 refine r_assign (Value.bool true) rfl rfl ?_
 refine reg_nil ?_
 refine run_ret (vs := [Value.bool true]) Tryz.func201 ⟨rfl, trivial⟩ ?_
 have hz := Option.some.inj q0
 subst hz
 exact ⟨_, _, rfl, hsub, (St.dropA (A := [(b1, .cells (enc8 .u8 a0.1 ++ [vI a0.2]).toArray 76)]) (St.dropA (A := [(b4, .cells (enc8 .u8 a1.1 ++ [vI a1.2]).toArray 76)]) hS)), rfl⟩
 rw [if_neg a3] at q0
 refine run_cond_true (Eq.trans rfl (congrArg (fun b => Value.bool (!b)) (decide_eq_false a3))) ?_
 refine run_seq (run_region ?_)
 refine r_assign (Value.bool false) rfl rfl ?_
 refine reg_nil ?_
 refine run_ret (vs := [Value.bool false]) Tryz.func201 ⟨rfl, trivial⟩ ?_
 have hz := Option.some.inj q0
 subst hz
 exact ⟨_, _, rfl, hsub, (St.dropA (A := [(b1, .cells (enc8 .u8 a0.1 ++ [vI a0.2]).toArray 76)]) (St.dropA (A := [(b4, .cells (enc8 .u8 a1.1 ++ [vI a1.2]).toArray 76)]) hS)), rfl⟩
 rw [if_neg a4] at q0
 refine run_cond_true (Eq.trans rfl (congrArg (fun b => Value.bool (!b)) (bfalse a4))) ?_
 refine run_seq (run_region ?_)
 refine r_assign (Value.bool false) rfl rfl ?_
 refine reg_nil ?_
 refine run_ret (vs := [Value.bool false]) Tryz.func201 ⟨rfl, trivial⟩ ?_
 have hz := Option.some.inj q0
 subst hz
 exact ⟨_, _, rfl, hsub, (St.dropA (A := [(b1, .cells (enc8 .u8 a0.1 ++ [vI a0.2]).toArray 76)]) (St.dropA (A := [(b4, .cells (enc8 .u8 a1.1 ++ [vI a1.2]).toArray 76)]) hS)), rfl⟩
def g_laws_szForm (K : Nat) (a0 : MpT) (a1 : Int) : Option Int := ((g_laws_szTermS K a0 a1).bind fun r4 => (if r4 < 0 then some (-1) else some r4))
set_option maxRecDepth 100000 in
set_option maxHeartbeats 1000000 in
theorem g_laws_szForm_ok {K : Nat} {a0 : MpT} {a1 : Int} {r : Int} (q0 : g_laws_szForm K a0 a1 = some r) {H : FH} {w : World} {L : OL} {s0 : Value} (a4 : RdSl yT H s0 a0) (hS : St H w L) :
 Calls Tryz.prog 27 #[Value.agg ([s0]).toArray, vI a1] w (Done (fun v G => (R.int .i64).p G v r) H L) := by
 have hsub := Sub.refl H
 refine calls_of_run Tryz.func27 rfl Tryz.ntmps27 rfl ?_
 unfold g_laws_szForm at q0
 refine run_seq (run_region ?_)
 refine r_box (v := Value.agg ([s0]).toArray) ([s0]).toArray rfl rfl hS rfl ?_
 intro b1 w2 hS
 refine r_assign (vI 0) rfl rfl ?_
 refine reg_nil (run_seq ?_)
 refine run_region ?_
 refine r_fieldAddr fld42_0 rfl rfl ?_
 refine r_loadOne (s0) ty40 rfl (hS.get mL) rfl rfl ?_
 refine r_move (vI a1) rfl rfl ?_
 obtain ⟨r4, a5, q0⟩ := bind_some q0
 refine r_callFn Tryz.call105 (args2 rfl rfl) rfl (g_laws_szTermS_ok a5 a4 hS) ?_
 rintro e4 w5 ⟨_, H4, rfl, a6, hS, rfl⟩
 refine ⟨_, rfl, ?_⟩
 have hsub := hsub.trans a6
 refine r_assign (vI r4) rfl rfl ?_
 refine reg_nil (run_seq ?_)
 refine run_seq (run_region ?_)
 refine r_move (vI r4) rfl rfl ?_
 refine r_lss (k := .i64) (a := r4) (b := 0) rfl rfl rfl ?_
 refine reg_nil ?_
 by_cases a3 : r4 < 0
 rw [if_pos a3] at q0
 refine run_cond_true (Eq.trans rfl (congrArg Value.bool (decide_eq_true a3))) ?_
 refine run_seq (run_region ?_)
 refine r_assign (vI (-1)) rfl rfl ?_
 refine reg_nil ?_
 refine run_ret (vs := [vI (-1)]) Tryz.func27 ⟨rfl, trivial⟩ ?_
 have hz := Option.some.inj q0
 subst hz
 exact ⟨_, _, rfl, hsub, (St.dropA (A := [(b1, .cells ([s0]).toArray 42)]) hS), rfl⟩
 rw [if_neg a3] at q0
 refine run_cond_false (Eq.trans rfl (congrArg Value.bool (decide_eq_false a3))) ?_
 refine run_skip (run_seq ?_)
 refine run_region ?_
 refine r_move (vI r4) rfl rfl ?_
 refine r_assign (vI r4) rfl rfl ?_
 refine reg_nil ?_
 refine run_ret (vs := [vI r4]) Tryz.func27 ⟨rfl, trivial⟩ ?_
 have hz := Option.some.inj q0
 subst hz
 exact ⟨_, _, rfl, hsub, (St.dropA (A := [(b1, .cells ([s0]).toArray 42)]) hS), rfl⟩
def g_slices_Contains_Sint_int (K : Nat) (a0 : (List Int)) (a1 : Int) : Option Bool := ((g_slices_Index_Sint_int K a0 a1).bind fun r1 => some (decide (0 ≤ r1)))
set_option maxRecDepth 100000 in
set_option maxHeartbeats 1000000 in
theorem g_slices_Contains_Sint_int_ok {K : Nat} {a0 : (List Int)} {a1 : Int} {r : Bool} (q0 : g_slices_Contains_Sint_int K a0 a1 = some r) {H : FH} {w : World} {L : OL} {s0 : Value} (a3 : RdSl (tyInt .i64) H s0 a0) (hS : St H w L) :
 Calls Tryz.prog 175 #[s0, vI a1] w (Done (fun v G => R.bool.p G v r) H L) := by
 have hsub := Sub.refl H
 refine calls_of_run Tryz.func175 rfl Tryz.ntmps175 rfl ?_
 unfold g_slices_Contains_Sint_int at q0
 refine run_seq (run_region ?_)
 refine r_assign (Value.bool false) rfl rfl ?_
 refine reg_nil (run_seq ?_)
 refine run_region ?_
 refine r_move (s0) rfl rfl ?_
 refine r_move (vI a1) rfl rfl ?_
 obtain ⟨r1, a4, q0⟩ := bind_some q0
 refine r_callFn Tryz.call252 (args2 rfl rfl) rfl (g_slices_Index_Sint_int_ok a4 a3 hS) ?_
 rintro e1 w2 ⟨_, H1, rfl, a5, hS, rfl⟩
 refine ⟨_, rfl, ?_⟩
 have hsub := hsub.trans a5
 refine r_geq (k := .i64) (a := r1) (b := 0) rfl rfl rfl ?_
 refine r_assign (Value.bool (decide (0 ≤ r1))) rfl rfl ?_
 refine reg_nil ?_
 refine run_ret (vs := [Value.bool (decide (0 ≤ r1))]) Tryz.func175 ⟨rfl, trivial⟩ ?_
 have hz := Option.some.inj q0
 subst hz
 exact ⟨_, _, rfl, hsub, hS, rfl⟩
def g_impl_isFactor (K : Nat) (a0 : Int) : Option Bool := ((g_impl_within K a0 1 10006).bind fun r1 => some r1)
set_option maxRecDepth 100000 in
set_option maxHeartbeats 1000000 in
theorem g_impl_isFactor_ok {K : Nat} {a0 : Int} {r : Bool} (q0 : g_impl_isFactor K a0 = some r) {H : FH} {w : World} {L : OL} (hS : St H w L) :
 Calls Tryz.prog 150 #[vI a0] w (Done (fun v G => R.bool.p G v r) H L) := by
 have hsub := Sub.refl H
 refine calls_of_run Tryz.func150 rfl Tryz.ntmps150 rfl ?_
 unfold g_impl_isFactor at q0
 refine run_seq (run_region ?_)
 refine r_assign (Value.bool false) rfl rfl ?_
 refine reg_nil (run_seq ?_)
 refine run_region ?_
 refine r_move (vI a0) rfl rfl ?_
 obtain ⟨r1, a1, q0⟩ := bind_some q0
 refine r_callFn Tryz.call97 (args3 rfl rfl rfl) rfl (g_impl_within_ok a1  hS) ?_
 rintro e1 w2 ⟨_, H1, rfl, a3, hS, rfl⟩
 refine ⟨_, rfl, ?_⟩
 have hsub := hsub.trans a3
 refine r_assign (Value.bool r1) rfl rfl ?_
 refine reg_nil ?_
 refine run_ret (vs := [Value.bool r1]) Tryz.func150 ⟨rfl, trivial⟩ ?_
 have hz := Option.some.inj q0
 subst hz
 exact ⟨_, _, rfl, hsub, hS, rfl⟩
end Go.Proofs.YtfodlhkoafhplaaGreat
