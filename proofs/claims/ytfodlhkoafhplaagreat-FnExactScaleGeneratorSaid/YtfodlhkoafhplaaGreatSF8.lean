/- Walks of functions: each computes its pure function, if that gives a value. -/
import Derived.Test.YtfodlhkoafhplaaGreatSF4
import Derived.Test.YtfodlhkoafhplaaGreatShelfP
import Derived.Test.YtfodlhkoafhplaaGreatSTy
import Derived.Test.YtfodlhkoafhplaaGreatSF3
import Derived.Test.YtfodlhkoafhplaaGreatSF2
import Derived.Test.YtfodlhkoafhplaaGreatSF1
namespace Go.Proofs.YtfodlhkoafhplaaGreat
open Go Go.Sort Go.RowKit Go.Shelf Go.Lib
set_option linter.unusedSimpArgs false
set_option linter.unusedVariables false
set_option maxRecDepth 100000
set_option maxHeartbeats 1000000
abbrev KeyB := {a : A8 // ∀ i, 0 ≤ a i ∧ a i ≤ 2305843009213693952}
instance : Inhabited KeyB := ⟨⟨fun _ => 0, fun _ => by simp⟩⟩
def cmpV (a b : A8) : Int :=
 if a 0 = b 0 then if a 1 = b 1 then if a 2 = b 2 then if a 3 = b 3 then if a 4 = b 4 then if a 5 = b 5 then if a 6 = b 6 then if a 7 = b 7 then 0
  else IntKind.i64.wrap (b 7 - a 7) else IntKind.i64.wrap (b 6 - a 6) else IntKind.i64.wrap (b 5 - a 5) else IntKind.i64.wrap (b 4 - a 4) else IntKind.i64.wrap (b 3 - a 3)
  else IntKind.i64.wrap (b 2 - a 2) else IntKind.i64.wrap (b 1 - a 1) else IntKind.i64.wrap (b 0 - a 0)
theorem cmp_val (a b : A8) : g_impl_power_compare 9 a b = some (cmpV a b) := by
 have e : ∀ (m : A8) (j : Nat) (h : j < 8), idx8 m (j : Int) = m ⟨j, h⟩ := fun m j h => by unfold idx8; simp [h]
 have e0 := fun m => e m 0 (by decide)
 have e1 := fun m => e m 1 (by decide)
 have e2 := fun m => e m 2 (by decide)
 have e3 := fun m => e m 3 (by decide)
 have e4 := fun m => e m 4 (by decide)
 have e5 := fun m => e m 5 (by decide)
 have e6 := fun m => e m 6 (by decide)
 have e7 := fun m => e m 7 (by decide)
 simp only [Int.ofNat_zero, Int.natCast_one, Int.cast_ofNat_Int] at e0 e1 e2 e3 e4 e5 e6 e7
 unfold g_impl_power_compare cmpV
 have z : ∀ (j k : Int), j + 1 = k → j + 1 = k := fun _ _ h => h
 simp only [g_impl_power_compare_l0, show (0 : Int) + 1 = 1 from rfl, show (1 : Int) + 1 = 2 from rfl, show (2 : Int) + 1 = 3 from rfl, show (3 : Int) + 1 = 4 from rfl, show (4 : Int) + 1 = 5 from rfl, show (5 : Int) + 1 = 6 from rfl,
  show (6 : Int) + 1 = 7 from rfl, show (7 : Int) + 1 = 8 from rfl, show (0 : Int) < 8 from by decide, show (1 : Int) < 8 from by decide, show (2 : Int) < 8 from by decide, show (3 : Int) < 8 from by decide, show (4 : Int) < 8 from by decide,
  show (5 : Int) < 8 from by decide, show (6 : Int) < 8 from by decide, show (7 : Int) < 8 from by decide, show ¬ (8 : Int) < 8 from by decide, if_true, if_false, e0, e1, e2, e3, e4, e5, e6, e7]
 simp only [show (⟨0, by decide⟩ : Fin 8) = 0 from rfl, show (⟨1, by decide⟩ : Fin 8) = 1 from rfl, show (⟨2, by decide⟩ : Fin 8) = 2 from rfl, show (⟨3, by decide⟩ : Fin 8) = 3 from rfl, show (⟨4, by decide⟩ : Fin 8) = 4 from rfl,
  show (⟨5, by decide⟩ : Fin 8) = 5 from rfl, show (⟨6, by decide⟩ : Fin 8) = 6 from rfl, show (⟨7, by decide⟩ : Fin 8) = 7 from rfl]
 by_cases h0 : a 0 = b 0
 by_cases h1 : a 1 = b 1
 by_cases h2 : a 2 = b 2
 by_cases h3 : a 3 = b 3
 by_cases h4 : a 4 = b 4
 by_cases h5 : a 5 = b 5
 by_cases h6 : a 6 = b 6
 by_cases h7 : a 7 = b 7
 simp [h0, h1, h2, h3, h4, h5, h6, h7, Ex.elim]
 simp [h0, h1, h2, h3, h4, h5, h6, h7, Ex.elim]
 simp [h0, h1, h2, h3, h4, h5, h6, Ex.elim]
 simp [h0, h1, h2, h3, h4, h5, Ex.elim]
 simp [h0, h1, h2, h3, h4, Ex.elim]
 simp [h0, h1, h2, h3, Ex.elim]
 simp [h0, h1, h2, Ex.elim]
 simp [h0, h1, Ex.elim]
 simp [h0, Ex.elim]
theorem wrap_neg {x y : Int} (hx : 0 ≤ x ∧ x ≤ 2305843009213693952) (hy : 0 ≤ y ∧ y ≤ 2305843009213693952) : decide (IntKind.i64.wrap (y - x) < 0) = decide (y < x) := by
 rw [IntWalk.i64_in _ (by omega)]
 simp only [decide_eq_decide]
 omega
theorem lt_bef (x y : KeyB) : ltOf (fun x y : KeyB => cmpV x.1 y.1) x y = bef x.1 y.1 := by
 unfold ltOf cmpV bef l8
 have hw : ∀ i, decide (IntKind.i64.wrap (y.1 i - x.1 i) < 0) = decide (y.1 i < x.1 i) := fun i => wrap_neg (x.2 i) (y.2 i)
 simp only [befL]
 by_cases h0 : x.1 0 = y.1 0
 by_cases h1 : x.1 1 = y.1 1
 by_cases h2 : x.1 2 = y.1 2
 by_cases h3 : x.1 3 = y.1 3
 by_cases h4 : x.1 4 = y.1 4
 by_cases h5 : x.1 5 = y.1 5
 by_cases h6 : x.1 6 = y.1 6
 by_cases h7 : x.1 7 = y.1 7
 simp [h0, h1, h2, h3, h4, h5, h6, h7]
 simp only [h0, h1, h2, h3, h4, h5, h6, if_true, if_neg h7]; exact hw 7
 simp only [h0, h1, h2, h3, h4, h5, if_true, if_neg h6]; exact hw 6
 simp only [h0, h1, h2, h3, h4, if_true, if_neg h5]; exact hw 5
 simp only [h0, h1, h2, h3, if_true, if_neg h4]; exact hw 4
 simp only [h0, h1, h2, if_true, if_neg h3]; exact hw 3
 simp only [h0, h1, if_true, if_neg h2]; exact hw 2
 simp only [h0, if_true, if_neg h1]; exact hw 1
 simp only [if_neg h0]; exact hw 0
theorem swoKey : SWO (ltOf fun x y : KeyB => cmpV x.1 y.1) where
 irrefl x := by rw [lt_bef]; exact bef_irrefl _
 trans x y z h1 h2 := by rw [lt_bef] at *; exact bef_trans h1 h2
 ntrans x y z h1 h2 := by
  rw [lt_bef] at *
  cases h : bef x.1 z.1 with
  | false => rfl
  | true =>
   by_cases exy : x.1 = y.1
   rw [exy] at h; rw [h] at h2; cases h2
   have hyx : bef y.1 x.1 = true := (bef_total exy).resolve_left (by rw [h1]; simp)
   rw [bef_trans hyx h] at h2; cases h2
/-- a world in which all is frozen; what comes behind it -/
def FH.all (W : World) : FH := ⟨fun b => W.heap[b]?, fun _ => none, some (W.tape, W.os, W.output, W.drawn, W.heap.size)⟩
theorem St.all (W : World) : St (FH.all W) W [] := ⟨fun _ _ h => h, fun _ _ h => (by cases h), fun t h => (by cases h; exact ⟨rfl, rfl, rfl, Nat.le_refl _⟩), fun b o h hl => (by
 have h : W.heap[b]? = some o := h
 have hl : W.heap.size ≤ b := hl
 rw [Array.getElem?_eq_none hl] at h; cases h), fun _ h => (by cases h), List.nodup_nil, fun _ h => (by cases h)⟩
theorem all_grow {W w' : World} {H' : FH} (hs : Sub (FH.all W) H') (hS : St H' w' []) : ∃ q os, w' = grow (W.drewN q) os := by
 obtain ⟨h1, h2, h3, h4⟩ := hS.rest _ (hs.2.2.trans rfl)
 have hsz : W.heap.size ≤ w'.heap.size := by
  by_cases h0 : W.heap.size = 0
  omega
  have hl : W.heap[W.heap.size - 1]? = some W.heap[W.heap.size - 1] := by simp
  have := lt_of_get (hS.froz _ _ (hs.1 _ _ hl))
  omega
 refine ⟨w'.drawn - W.drawn, w'.heap.extract W.heap.size w'.heap.size, ?_⟩
 have hh : w'.heap = W.heap ++ w'.heap.extract W.heap.size w'.heap.size := by
  apply Array.ext_getElem?
  intro i
  rw [Array.getElem?_append]
  split
  rename_i hi
  have hl : W.heap[i]? = some W.heap[i] := by simp [hi]
  rw [hl]
  exact hS.froz _ _ (hs.1 _ _ hl)
  rename_i hi
  rw [Array.getElem?_extract]
  by_cases hi2 : i < w'.heap.size
  rw [if_pos (by omega)]
  congr 1; omega
  rw [if_neg (by omega)]
  simp; omega
 obtain ⟨hp, tp, dr, os, out⟩ := w'
 simp only at h1 h2 h3 h4 hh hsz ⊢
 unfold grow World.drewN
 simp only
 congr 1
 omega
theorem cmpLays (blk off size : Nat) (w : World) : CmpLays Tryz.prog 221 #[] (fun x : KeyB => enc8 .i64 x.1) 8 (fun x y => cmpV x.1 y.1) blk off size w := by
 intro m os dk hd x y
 have h := g_impl_power_compare_ok (cmp_val x.1 y.1) (St.all (sortWorldK (fun x : KeyB => enc8 .i64 x.1) 8 w blk off m dk os))
 refine h.mono ?_
 rintro e w' ⟨v, H', rfl, hs, hS, hv⟩
 exact ⟨congrArg Ending.returned hv, all_grow hs hS⟩
theorem St.ahead {H : FH} {w : World} {L : OL} (h : St H w L) (n : Nat) : St H (Sort.ahead w n) L :=
 ⟨h.froz, h.memo, fun t ht => (let ⟨a, b, c, d⟩ := h.rest t ht; ⟨a, b, c, Nat.le_trans d (Nat.le_add_right _ _)⟩), h.nofz, h.own, h.nodup, h.apart⟩
theorem St.grown {H : FH} {w : World} {L : OL} (h : St H w L) (os : Array Obj) : St H (grow w os) L := by
 have hlt : ∀ b o', w.heap[b]? = some o' → (grow w os).heap[b]? = some o' := fun b o' hb => by
  have := lt_of_get hb
  show (w.heap ++ os)[b]? = some o'
  rw [Array.getElem?_append_left this]; exact hb
 exact ⟨fun b o hb => hlt b o (h.froz b o hb), fun b I hb => (let ⟨h1, h2, o, h3, h4⟩ := h.memo b I hb; ⟨h1, h2, o, hlt _ _ h3, h4⟩), h.rest, h.nofz, fun x hx => hlt _ _ (h.own x hx), h.nodup, h.apart⟩
theorem St.mapBlock {H : FH} {w : World} {L : OL} {b : Nat} {cs : Array Value} {E : TypeId} (h : St H w ([(b, .cells cs E)] ++ L)) (f : Array Value → Array Value) : St H (Sort.mapBlock w b f) ([(b, .cells (f cs) E)] ++ L) := by
 have hw : w.heap[b]? = some (.cells cs E) := St.hd h
 have e : Sort.mapBlock w b f = { w with heap := w.heap.setIfInBounds b (.cells (f cs) E) } := by
  unfold Sort.mapBlock
  congr 1
  apply Array.ext_getElem?
  intro k
  rw [Array.getElem?_modify, Array.getElem?_setIfInBounds]
  by_cases hk : b = k
  subst hk
  have := lt_of_get hw
  rw [hw]
  simp [this, onCells]
  simp [hk]
 rw [e]
 exact St.put h _
theorem keys_of {xs : List A8} (hb : ∀ a, a ∈ xs → ∀ i, 0 ≤ a i ∧ a i ≤ 2305843009213693952) : ∃ ks : List KeyB, ks.map Subtype.val = xs := by
 induction xs with
 | nil => exact ⟨[], rfl⟩
 | cons a xs ih =>
  obtain ⟨ks, rfl⟩ := ih (fun b h => hb b (List.mem_cons_of_mem _ h))
  exact ⟨⟨a, hb a (List.mem_cons_self ..)⟩ :: ks, rfl⟩
theorem flat_get (ks : List KeyB) (t : Nat) (h : t < ks.length * 8) : (flatK (fun x : KeyB => enc8 .i64 x.1) 8 ks.toArray)[t]! = (enc8 .i64 (ks[t / 8]!).1)[t % 8]! := by
 rw [get_flatK _ _ _ _ (by simpa using h)]
 simp
theorem sort_ok {H : FH} {w : World} {L : OL} {b c : Nat} {cs : Array Value} {xs : List A8} (hl : xs.length ≤ c) (hc : c ≤ maxLen) (hcs : cs.size = c * 8)
 (hx : ∀ i x, xs[i]? = some x → ∀ j, j < 8 → cs[i * 8 + j]? = (enc8 .i64 x)[j]?) (hS : St H w ([(b, .cells cs 188)] ++ L))
 (hb : ∀ a, a ∈ xs → ∀ i, 0 ≤ a i ∧ a i ≤ 2305843009213693952) (hlen : xs.length ≤ 1099511627776) (hnd : xs.Nodup) :
 Calls Tryz.prog 253 #[.slice (some ⟨b, 0, none⟩) xs.length c, .func (.func 221) #[] #[]] w (fun e w' => e = .returned (.tuple #[]) ∧ ∃ ys C', ys.Perm xs ∧ ys.Pairwise (fun p q => bef p q = true) ∧ St H w' (C' ++ L) ∧
  OwnSl (tyA8 .i64) 188 H (.slice (some ⟨b, 0, none⟩) xs.length c) ys C') := by
 obtain ⟨ks, rfl⟩ := keys_of hb
 have hw : w.heap[b]? = some (.cells cs 188) := St.hd hS
 have hget : ∀ (t : Nat), t < ks.length * 8 → cs[t]? = some ((flatK (fun x : KeyB => enc8 .i64 x.1) 8 ks.toArray)[t]!) := by
  intro t ht
  have h8 : t / 8 < ks.length := by omega
  have := hx (t / 8) (ks[t / 8]).1 (by simp [h8]) (t % 8) (Nat.mod_lt _ (by decide))
  rw [show t / 8 * 8 + t % 8 = t by omega] at this
  rw [this, flat_get ks t ht]
  have he : (enc8 .i64 (ks[t / 8]).1).length = 8 := rfl
  have h9 : t % 8 < (enc8 .i64 (ks[t / 8]).1).length := by rw [he]; exact Nat.mod_lt _ (by decide)
  rw [getElem!_pos ks _ h8, List.getElem?_eq_getElem h9, getElem!_pos (enc8 .i64 (ks[t / 8]).1) _ h9]
 have hH : HoldsK (fun x : KeyB => enc8 .i64 x.1) 8 w b 0 ks.toArray := by
  intro j hj
  rw [size_flatK] at hj
  have hj' : j < ks.length * 8 := by simpa using hj
  refine ⟨?_, ?_⟩
  rw [World.cell?, hw]
  simp only [Nat.zero_add]
  rw [hget j hj']; rfl
  simp [World.frozen?, hw]
 have hcall := AnyQ.slices_SortFunc Tryz.sortP 8 Tryz.isAgg188 Tryz.sizeOf188 (fun x : KeyB => enc8 .i64 x.1) (fun _ => rfl) (fun x v hv => enc8_one _ _ v hv) (fun x y => cmpV x.1 y.1) swoKey 221 #[] b 0 c ks.toArray w Tryz.call221
  (cmpLays b 0 ks.toArray.size w) hH (lt_of_get hw) (by simp at hlen ⊢; omega)
 change Calls Tryz.prog 253 _ _ _ at hcall
 simp only [List.size_toArray, List.length_map] at hcall ⊢
 refine hcall.mono ?_
 rintro e w' ⟨rfl, d', n, os, hp, hs, rfl⟩
 have hsz : d'.size = ks.length := by have := hp.1; simpa using this
 have hperm : d'.toList.Perm ks := by
  have := hp.2.2
  rw [Array.extract_eq_self_of_le (by omega), Array.extract_eq_self_of_le (by simp)] at this
  simpa using this
 have hF : (flatK (fun x : KeyB => enc8 .i64 x.1) 8 d').size = ks.length * 8 := by rw [size_flatK, hsz]
 refine ⟨rfl, d'.toList.map Subtype.val, [(b, .cells (putCells id 0 (flatK (fun x : KeyB => enc8 .i64 x.1) 8 d') cs) 188)], hperm.map _, ?_, ?_, .inr ⟨b, c, _, ?_, ?_, hc, ?_, rfl, ?_⟩⟩
 rw [List.pairwise_map, List.pairwise_iff_getElem]
 intro i j hi hj hij
 have hi' : i < d'.size := by simpa using hi
 have hj' : j < d'.size := by simpa using hj
 have := hs i j (Nat.zero_le _) hij (by simp at hj ⊢; omega)
 rw [lt_bef, getElem!_pos d' j hj', getElem!_pos d' i hi'] at this
 simp only [Array.getElem_toList]
 refine (bef_total ?_).resolve_right (by rw [this]; simp)
 intro e
 have hnd' : (d'.toList.map Subtype.val).Nodup := (hperm.map _).nodup_iff.2 hnd
 have := (List.nodup_iff_pairwise_ne.1 hnd')
 rw [List.pairwise_map, List.pairwise_iff_getElem] at this
 exact this i j hi hj hij (by simpa using e)
 have h1 := (hS.ahead n).mapBlock (putCells id 0 (flatK (fun x : KeyB => enc8 .i64 x.1) 8 d'))
 exact h1.grown os
 simp [hsz]
 simp [hsz]; simpa using hl
 simp only [putCells, Array.size_mapIdx]
 exact hcs
 intro i x hix
 refine ⟨_, rfl, fun j hj => ?_⟩
 have hj : j < 8 := hj
 have hi : i < d'.size := by
  rcases Nat.lt_or_ge i d'.size with h | h
  exact h
  rw [List.getElem?_eq_none (by simpa using h)] at hix; cases hix
 have hxv : x = d'[i].1 := by
  rw [List.getElem?_map] at hix
  simp [hi] at hix
  exact hix.symm
 subst hxv
 show (putCells id 0 (flatK (fun x : KeyB => enc8 .i64 x.1) 8 d') cs)[i * 8 + j]? = _
 have ht : i * 8 + j < ks.length * 8 := by omega
 have hcl : i * 8 + j < cs.size := by rw [hcs]; simp at hl; omega
 simp only [putCells, Array.getElem?_mapIdx]
 rw [Array.getElem?_eq_getElem hcl]
 simp only [Option.map_some]
 rw [if_pos (by rw [hF]; omega), Nat.sub_zero, get_flatK _ _ _ _ (by rw [hsz]; exact ht)]
 rw [show (i * 8 + j) / 8 = i by omega, show (i * 8 + j) % 8 = j by omega, getElem!_pos d' _ hi]
 have h9 : j < (enc8 .i64 d'[i].1).length := hj
 rw [getElem!_pos (enc8 .i64 d'[i].1) j h9, List.getElem?_eq_getElem h9]; rfl
def g_spec_l02Own_l0 (K : Nat) (a0 : ((List Int) × (List MpT))) : Nat → Int → (List MpT) → Option (Ex ((List Int) × (List MpT)) ((List MpT)))
 | 0, _, _ => none
 | k + 1, a6, a5 => (if a6 < (a0.2.length : Int) then ((g_spec_l02Copy K (rd a0.2 a6) 0).bind fun b7 => (if a5.length + ([b7]).length ≤ 1099511627776 then g_spec_l02Own_l0 K a0 k (a6 + 1) (a5 ++ [b7]) else none)) else some (.go a5))
def g_spec_l02Own (K : Nat) (a0 : ((List Int) × (List MpT))) : Option ((List Int) × (List MpT)) := ((g_spec_l01Own K a0.1).bind fun r7 => ((g_spec_l02Own_l0 K a0 K 0 ([] : List MpT)).bind (Ex.elim (fun r => some r) (fun s => (fun (a8 : (List MpT)) => some (r7, a8)) s))))
theorem g_spec_l02Own_ok {K : Nat} {a0 : ((List Int) × (List MpT))} {r : ((List Int) × (List MpT))} (q0 : g_spec_l02Own K a0 = some r) {H : FH} {w : World} {L : OL} {s0 : Value} {s1 : Value} (b6 : RdSl (tyInt .i64) H s0 a0.1) (b2 : RdSl (tySl yT) H s1 a0.2) (hS : St H w L) :
 Calls Tryz.prog 142 #[vA ([s0] ++ [s1])] w (DoneA (tyInt .i64) (tySl yT) 47 r H L) := by
 have hsub := Sub.refl H
 refine calls_of_run Tryz.func142 rfl Tryz.ntmps142 rfl ?_
 unfold g_spec_l02Own at q0
 refine run_seq (run_region ?_)
 refine r_box (v := vA ([s0] ++ [s1])) ([s0] ++ [s1]).toArray rfl rfl hS rfl ?_
 intro b1 w2 hS
 refine r_alloc (z := vA ([vN] ++ [vN])) ([vN] ++ [vN]).toArray ze29.zero rfl hS rfl ?_
 intro b4 w5 hS
 refine reg_nil (run_seq (run_region (r_fieldAddr fld29_0 rfl rfl ?_)))
 refine r_loadOne (s0) ty22 rfl (hS.get (mR mL)) rfl rfl ?_
 obtain ⟨r7, i1, q0⟩ := bind_some q0
 refine r_callFn Tryz.call234 (args1 rfl) rfl (g_spec_l01Own_ok i1 b6 hS) ?_
 rintro e7 w8 ⟨v7, H7, rfl, d7, hS, b3⟩
 refine ⟨_, rfl, ?_⟩
 have hsub := hsub.trans d7
 have b6 := b6.mono d7
 have b2 := b2.mono d7
 refine r_build ([v7] ++ [vN]) bu29 (parts1 rfl) (fill_cons rfl b3.cellsL rfl (Nat.le_of_ble_eq_true rfl) (fill_nil rfl)) rfl ?_
 refine r_alloc (z := vA ([vN] ++ [vN])) ([vN] ++ [vN]).toArray ze29.zero rfl hS rfl ?_
 intro b9 m3 hS
 refine r_storeAll (v := vA ([v7] ++ [vN])) (vs := ([v7] ++ [vN]).toArray) (cs := ([vN] ++ [vN]).toArray) ty29 rfl rfl rfl hS rfl (one_app (one1 b3.isOne) (one1 rfl)) rfl ?_
 intro m4 hS
 refine reg_nil (run_seq (run_seq (run_region (r_assign (vI 0) rfl rfl (reg_nil (run_block ?_))))))
 have d8 : OwnSl (tySl yT) 47 H7 (.slice none 0 0) [] [] := OwnSl.nil _ _ _
 obtain ⟨d9, a9, e0⟩ := bind_some q0
 refine loop_ind (id := 0) (fun k f w => ∃ (a6 : Int) (a5 : (List MpT)) (H1 : FH) (a7 : OL) (a3 : Value), g_spec_l02Own_l0 K a0 k a6 a5 = some d9 ∧ Sub H H1 ∧ St H1 w (a7 ++ ([(b9, cA ([v7] ++ [a3]) 29)] ++ ([(b4, cA ([vN] ++ [vN]) 29)] ++ ([(b1, cA ([s0] ++ [s1]) 29)] ++ L)))) ∧ 0 ≤ a6 ∧ OwnSl (tySl yT) 47 H1 a3 a5 a7 ∧ RdSl (tyInt .i64) H1 s0 a0.1 ∧ RdSl (tySl yT) H1 s1 a0.2 ∧ RdSl (tyInt .i64) H1 v7 r7 ∧ ev f (.tmp 1) = vP b1 ∧ ev f (.tmp 2) = vP b4 ∧ ev f (.tmp 3) = vP b9 ∧ ev f (.tmp 4) = vI a6) (fun f w => ∃ (a8 : (List MpT)) (H1 : FH) (a4 : OL) (a1 : Value), d9 = .go a8 ∧ Sub H H1 ∧ St H1 w (a4 ++ ([(b9, cA ([v7] ++ [a1]) 29)] ++ ([(b4, cA ([vN] ++ [vN]) 29)] ++ ([(b1, cA ([s0] ++ [s1]) 29)] ++ L)))) ∧ OwnSl (tySl yT) 47 H1 a1 a8 a4 ∧ RdSl (tyInt .i64) H1 s0 a0.1 ∧ RdSl (tySl yT) H1 s1 a0.2 ∧ RdSl (tyInt .i64) H1 v7 r7 ∧ ev f (.tmp 2) = vP b4 ∧ ev f (.tmp 3) = vP b9) rfl ?_ ?_ K ?_ ?_
 rintro f w ⟨a6, a5, H1, a7, a3, a9, _⟩
 rw [g_spec_l02Own_l0] at a9; cases a9
 rintro k j8 j9 i2 i3 ⟨a6, a5, f7, a7, a3, a9, hsub, hS, i4, b0, b6, b2, b3, c0, c7, c1, c2⟩
 rw [g_spec_l02Own_l0] at a9
 refine run_seq (run_seq (run_region (r_move (vI a6) (by exact c2) rfl (r_fieldAddr fld29_1 (by exact c0) rfl ?_))))
 refine r_loadOne (s1) ty27 rfl (hS.get (mR (mR (mR mL)))) rfl rfl ?_
 have k0 := b2.bound
 refine r_lenRd sl27 rfl b2 rfl ?_
 refine r_lss (k := .i64) (a := a6) (b := (a0.2.length : Int)) rfl rfl rfl (reg_nil ?_)
 by_cases c9 : a6 < (a0.2.length : Int)
 rw [if_pos c9] at a9
 refine run_cond_true (Eq.trans rfl (congrArg Value.bool (decide_eq_true c9))) (run_skip (run_seq (run_block ?_)))
 obtain ⟨f3, f4, k1, m5, _, f8, d2, ⟨d0, rfl, c4⟩, f9⟩ := b2.elem (i := a6) (by omega) (by omega)
 obtain ⟨b7, g0, a9⟩ := bind_some a9
 refine run_draw 9 (tabL [(16, MP.eq (Value.pointer (some ⟨b9, 1, none⟩))), (17, MP.eq (a3)), (18, MP.eq (Value.pointer (some ⟨b1, 1, none⟩))), (19, MP.eq (s1)), (20, MP.eq (vI a6)), (21, MP.eq (Value.pointer (some ⟨f3, f4, none⟩))), (22, MP.eq (vA ([d0]))), (23, MP.rep (R.agg (tySl yT)) (b7)), (24, MP.sl (tySl yT) ([b7]))]) [] mixed rfl rfl rfl hS (hop_q rfl ?_ (hop_q rfl ?_ (hop_q rfl ?_ (hop_q rfl ?_ (hop_q rfl ?_ (hop_q rfl ?_ (hop_q rfl ?_ (hop_q rfl ?_ (hop_q rfl ?_ hop_nil))))))))) ?_
 intro m6 m7 m8 m9 k2 hS g1 k3 hcq
 refine r_fieldAddr fld29_1 (evT (g1 3 rfl) c1) rfl ?_
 exact qn (.refl _) rfl hS rfl
 intro i5 n0 n1 n2 k4 hS k5 g2 hcq
 have i6 : ev i5 (.tmp 16) = Value.pointer (some ⟨b9, 1, none⟩) := g2 0 16 rfl rfl
 refine r_loadOne (a3) ty27 i6 (hS.get (mR (mR mL))) rfl rfl ?_
 exact qn (.refl _) rfl hS rfl
 intro n3 n4 n5 n6 k6 hS g3 k7 hcq
 refine r_fieldAddr fld29_1 (evT (g3 1 rfl) c0) rfl ?_
 exact qn (.refl _) rfl hS rfl
 intro i7 n7 n8 n9 k8 hS k9 g4 hcq
 have i8 : ev i7 (.tmp 18) = Value.pointer (some ⟨b1, 1, none⟩) := g4 2 18 rfl rfl
 refine r_loadOne (s1) ty27 i8 (hS.get (mR (mR (mR (mR mL))))) rfl rfl ?_
 exact qn (.refl _) rfl hS rfl
 intro o0 o1 o2 o3 l0 hS g5 l1 hcq
 refine r_move (vI a6) (evT (g5 4 rfl) c2) rfl ?_
 exact qn (.refl _) rfl hS rfl
 intro f5 o4 o5 o6 l2 hS l3 e1 hcq
 have i9 : ev f5 (.tmp 19) = s1 := e1 3 19 rfl rfl
 have j0 : ev f5 (.tmp 20) = vI a6 := e1 4 20 rfl rfl
 refine r_indexAt sl27 rfl i9 f8 j0 (by omega) (by omega) rfl ?_
 exact qn (.refl _) rfl hS rfl
 intro j1 o7 o8 o9 g6 hS l4 g7 hcq
 have d2 := g6.1 _ _ d2
 have j2 : ev j1 (.tmp 21) = Value.pointer (some ⟨f3, f4, none⟩) := g7 5 21 rfl rfl
 refine r_loadAgg ([d0]) ty47 j2 (hS.froz _ _ d2) rfl f9 rfl ?_
 exact qn (.refl _) rfl hS rfl
 intro j3 p0 p1 p2 g8 hS l5 g9 hcq
 have c4 := c4.mono g8
 have j4 : ev j3 (.tmp 22) = vA ([d0]) := g9 6 22 rfl rfl
 refine r_callFn Tryz.call235 (args2 j4 rfl) rfl (g_spec_l02Copy_ok g0 c4 hS) ?_
 rintro p3 p4 ⟨j5, p5, rfl, h0, hS, h1⟩
 refine ⟨j5, rfl, ?_⟩
 exact qn h0 rfl hS h1
 intro j6 p6 j7 p7 l6 hS l7 h2 hcq
 obtain ⟨h3, f6⟩ : ∃ v, ev j6 (.tmp 23) = v := ⟨_, rfl⟩
 have e8 : (R.agg (tySl yT)).p j7 h3 (b7) := f6 ▸ (h2 7 23 rfl rfl)
 obtain ⟨_, rfl, ⟨e2, rfl, d5⟩⟩ := e8
 refine r_lit (τ := (tySl yT)) sl27 ze47 rfl [vA ([e2])] [b7] rfl rfl (parts1 f6) (rel1 ⟨_, rfl, d5⟩) (by decide) (by decide) hS rfl ?_
 intro l9 m0 m1 e9 hS f0
 exact qn e9 rfl hS f0
 intro e3 h4 c5 b8 hS c3 d3 hcq
 have hS : St c5 h4 (a7 ++ ([(b9, cA ([v7] ++ [a3]) 29)] ++ ([(b4, cA ([vN] ++ [vN]) 29)] ++ ([(b1, cA ([s0] ++ [s1]) 29)] ++ L)))) := hS
 have hsub := hsub.trans b8
 have b6 := b6.mono b8
 have b2 := b2.mono b8
 have b3 := b3.mono b8
 have b0 := b0.mono b8
 have e4 := evT (c3 3 rfl) c1
 have h5 : ev e3 (.tmp 17) = a3 := d3 1 17 (by decide) rfl
 obtain ⟨h6, e5⟩ : ∃ v, ev e3 (.tmp 24) = v := ⟨_, rfl⟩
 have f1 : RdSl (tySl yT) c5 h6 ([b7]) := e5 ▸ (d3 8 24 (by decide) rfl)
 obtain ⟨f2, a9⟩ := gd a9
 refine r_append (τ := (tySl yT)) ap27 rfl (by exact h5) (by exact e5) b0 hS f1 f2 rfl ?_
 intro d1 h7 c6 d4 hS
 refine r_fieldAddr fld29_1 (by exact e4) rfl ?_
 have hS : St c5 h7 ([(b9, cA ([v7] ++ [a3]) 29)] ++ (c6 ++ ([(b4, cA ([vN] ++ [vN]) 29)] ++ ([(b1, cA ([s0] ++ [s1]) 29)] ++ L)))) := hS.perm (perm1 (A1 := c6))
 refine r_store1 (v := d1) (cs := ([v7] ++ [a3]).toArray) (cs' := ([v7] ++ [d1]).toArray) ty27 rfl rfl hS d4.isOne rfl (Nat.le_of_ble_eq_true rfl) rfl ?_
 intro h8 hS
 have hS : St c5 h8 (c6 ++ ([(b9, cA ([v7] ++ [d1]) 29)] ++ ([(b4, cA ([vN] ++ [vN]) 29)] ++ ([(b1, cA ([s0] ++ [s1]) 29)] ++ L)))) := hS.perm (perm1 (A1 := c6)).symm
 refine reg_nil (run_inBlock (run_region (r_move (vI a6) (by exact (evT (c3 4 rfl) c2)) rfl ?_)))
 refine r_add (a6 + 1) rfl rfl (IntWalk.i64_in _ (by omega)) rfl (r_assign (vI (a6 + 1)) rfl rfl (reg_nil ?_))
 exact i2 _ _ ⟨(a6 + 1), (a5 ++ [b7]), c5, c6, d1, a9, hsub, hS, (by omega), d4, b6, b2, b3, (evT (c3 1 rfl) c0), (evT (c3 2 rfl) c7), e4, rfl⟩
 rw [if_neg c9] at a9
 refine run_cond_false (Eq.trans rfl (congrArg Value.bool (decide_eq_false c9))) ?_
 refine run_exit rfl ?_
 have hz := Option.some.inj a9
 subst hz
 exact i3 _ _ ⟨a5, f7, a7, a3, rfl, hsub, hS, b0, b6, b2, b3, c7, c1⟩
 exact ⟨0, ([] : List MpT), H7, ([]), (vN), a9, hsub, hS, (by omega), d8, b6, b2, b3, rfl, rfl, rfl, rfl⟩
 rintro m2 h9 ⟨a8, e6, a4, a1, rfl, hsub, hS, b5, b6, b2, b3, c8, d6⟩
 dsimp only [Ex.elim] at e0
 refine run_seq (run_region ?_)
 refine r_loadAll ty29 (by exact d6) (hS.get (mR mL)) rfl rfl ?_
 have hS : St e6 h9 ([(b4, cA ([vN] ++ [vN]) 29)] ++ (a4 ++ ([(b9, cA ([v7] ++ [a1]) 29)] ++ ([(b1, cA ([s0] ++ [s1]) 29)] ++ L)))) := hS.perm (perm2 (A1 := a4) (A2 := [(b9, cA ([v7] ++ [a1]) 29)]))
 refine r_storeAll (v := vA ([v7] ++ [a1])) (vs := ([v7] ++ [a1]).toArray) (cs := ([vN] ++ [vN]).toArray) ty29 (by exact c8) rfl rfl hS rfl (one_app (one1 b3.isOne) (one1 b5.isOne)) rfl ?_
 intro i0 hS
 have hS : St e6 i0 (a4 ++ ([(b9, cA ([v7] ++ [a1]) 29)] ++ ([(b4, cA ([v7] ++ [a1]) 29)] ++ ([(b1, cA ([s0] ++ [s1]) 29)] ++ L)))) := hS.perm (perm2 (A1 := a4) (A2 := [(b9, cA ([v7] ++ [a1]) 29)])).symm
 refine reg_nil ?_
 refine run_ret (vs := [vA ([v7] ++ [a1])]) Tryz.func142 ⟨⟨_, (by exact c8), run_loadAll ty29 (hS.get (mR (mR mL))) rfl⟩, trivial⟩ ?_
 have hS := St.dropMid (A := a4) (B := [(b9, cA ([v7] ++ [a1]) 29)]) hS
 have hS := St.dropMid (A := a4) (B := [(b4, cA ([v7] ++ [a1]) 29)]) hS
 have hS := St.dropMid (A := a4) (B := [(b1, cA ([s0] ++ [s1]) 29)]) hS
 have hz := Option.some.inj e0
 subst hz
 exact ⟨_, _, _, _, rfl, hsub, hS, b3, b5⟩
def g_impl_sumOf_l0 (K : Nat) (a0 : MpT) : Nat → Int → MpT → Option (Ex MpT (MpT))
 | 0, _, _ => none
 | k + 1, a1, a3 => (if a1 < (a0.length : Int) then ((g_impl_powerOf K ((rd a0 a1).1)).bind fun b4 => g_impl_sumOf_l0 K a0 k (a1 + 1) (mput a3 b4 ((rd a0 a1).2))) else some (.go a3))
def g_impl_sumOf (K : Nat) (a0 : MpT) : Option MpT := ((g_impl_sumOf_l0 K a0 K 0 ([] : MpT)).bind (Ex.elim (fun r => some r) (fun s => (fun (a7 : MpT) => some a7) s)))
theorem g_impl_sumOf_ok {K : Nat} {a0 : MpT} {r : MpT} (q0 : g_impl_sumOf K a0 = some r) {H : FH} {w : World} {L : OL} {s0 : Value} (b0 : RdSl yT H s0 a0) (hS : St H w L) :
 Calls Tryz.prog 90 #[vA ([s0])] w (DoneM .i64 r H L) := by
 have hsub := Sub.refl H
 refine calls_of_run Tryz.func90 rfl Tryz.ntmps90 rfl ?_
 unfold g_impl_sumOf at q0
 refine run_seq (run_region ?_)
 refine r_box (v := vA ([s0])) ([s0]).toArray rfl rfl hS rfl ?_
 intro b1 w2 hS
 refine r_assign (Value.map none) rfl rfl (reg_nil (run_seq (run_region ?_)))
 refine r_makeMap (k := .i64) hS rfl ?_
 intro m4 w5 C6 e3 hS
 refine r_assign (m4) rfl rfl (reg_nil (run_seq (run_seq (run_region (r_fieldAddr fld47_0 rfl rfl ?_)))))
 refine r_loadOne (s0) ty45 rfl (hS.get (mR mL)) rfl rfl ?_
 have h8 := b0.bound
 refine r_lenRd sl45 rfl b0 rfl (r_move (vI 0) rfl rfl (reg_nil (run_block ?_)))
 obtain ⟨c4, a5, c5⟩ := bind_some q0
 refine loop_ind (id := 0) (fun k f w => ∃ (a1 : Int) (a3 : MpT) (H1 : FH) (a4 : OL), g_impl_sumOf_l0 K a0 k a1 a3 = some c4 ∧ Sub H H1 ∧ St H1 w (a4 ++ ([(b1, cA ([s0]) 47)] ++ L)) ∧ 0 ≤ a1 ∧ OwnMp .i64 m4 a3 a4 ∧ RdSl yT H1 s0 a0 ∧ ev f (.tmp 3) = m4 ∧ ev f (.tmp 8) = s0 ∧ ev f (.tmp 9) = vI (a0.length : Int) ∧ ev f (.tmp 10) = vI a1) (fun f w => ∃ (a7 : MpT) (H1 : FH) (a8 : OL), c4 = .go a7 ∧ Sub H H1 ∧ St H1 w (a8 ++ ([(b1, cA ([s0]) 47)] ++ L)) ∧ OwnMp .i64 m4 a7 a8 ∧ RdSl yT H1 s0 a0 ∧ ev f (.tmp 3) = m4) rfl ?_ ?_ K ?_ ?_
 rintro f w ⟨a1, a3, H1, a4, a5, _⟩
 rw [g_impl_sumOf_l0] at a5; cases a5
 rintro k g0 g1 e4 e5 ⟨a1, a3, c9, a4, a5, hsub, hS, e2, a6, b0, b3, b5, b6, b2⟩
 rw [g_impl_sumOf_l0] at a5
 refine run_seq (run_region ?_)
 refine r_lss (k := .i64) (a := a1) (b := (a0.length : Int)) (by exact b2) (by exact b6) rfl (reg_nil (run_seq ?_))
 by_cases b7 : a1 < (a0.length : Int)
 rw [if_pos b7] at a5
 refine run_cond_true (Eq.trans rfl (congrArg Value.bool (decide_eq_true b7))) (run_skip (run_seq (run_block (run_seq (run_region ?_)))))
 obtain ⟨h9, i0, g2, i1, _, d0, d1, ⟨_, _, rfl, rfl, rfl⟩, d2⟩ := b0.elem (i := a1) (by omega) (by omega)
 refine r_indexAt sl45 rfl (by exact b5) d0 (by exact b2) (by omega) (by omega) rfl ?_
 refine r_loadAgg (enc8 .u8 ((rd a0 a1).1) ++ [vI ((rd a0 a1).2)]) ty76 rfl (hS.froz _ _ d1) rfl d2 rfl ?_
 refine r_alloc (z := vA (enc8 .u8 (fun _ => 0) ++ [vI 0])) (enc8 .u8 (fun _ => 0) ++ [vI 0]).toArray ze76.zero rfl hS rfl ?_
 intro a9 i2 hS
 refine r_storeAll (v := vA (enc8 .u8 ((rd a0 a1).1) ++ [vI ((rd a0 a1).2)])) (vs := (enc8 .u8 ((rd a0 a1).1) ++ [vI ((rd a0 a1).2)]).toArray) (cs := (enc8 .u8 (fun _ => 0) ++ [vI 0]).toArray) ty76 rfl rfl rfl hS rfl (one_app (enc8_one .u8 ((rd a0 a1).1)) (one1 rfl)) rfl ?_
 intro i3 hS
 refine reg_nil ?_
 obtain ⟨b4, d3, a5⟩ := bind_some a5
 refine run_draw 6 (tabL [(14, MP.eq (m4)), (15, MP.eq (vP a9)), (16, MP.eq (vA (enc8 .u8 ((rd a0 a1).1)))), (17, MP.eq (vA (enc8 .i64 b4))), (18, MP.eq (Value.pointer (some ⟨a9, 8, none⟩))), (19, MP.eq (vI ((rd a0 a1).2)))]) [] mixed rfl rfl rfl hS (hop_q rfl ?_ (hop_q rfl ?_ (hop_q rfl ?_ (hop_q rfl ?_ (hop_q rfl ?_ (hop_q rfl ?_ hop_nil)))))) ?_
 intro i4 i5 i6 i7 g3 hS d4 g4 hcq
 refine r_move (m4) (evT (d4 3 rfl) b3) rfl ?_
 exact qn (.refl _) rfl hS rfl
 intro e6 i8 i9 j0 g5 hS d5 g6 hcq
 have e7 : ev e6 (.tmp 5) = vP a9 := Eq.trans (d5 5 rfl) rfl
 refine r_fieldAddr fld76_0 e7 rfl ?_
 exact qn (.refl _) rfl hS rfl
 intro e8 j1 j2 j3 g7 hS g8 d6 hcq
 have e9 : ev e8 (.tmp 15) = vP a9 := d6 1 15 rfl rfl
 refine r_loadAgg (enc8 .u8 ((rd a0 a1).1)) ty70 e9 (hS.get (o := cA (enc8 .u8 ((rd a0 a1).1) ++ [vI ((rd a0 a1).2)]) 76) (mR mL)) rfl (fun j hj => sub_box ([]) (enc8 .u8 ((rd a0 a1).1)) (([vI ((rd a0 a1).2)])) j hj) rfl ?_
 exact qn (.refl _) rfl hS rfl
 intro f0 j4 j5 j6 g9 hS h0 d7 hcq
 have f1 : ev f0 (.tmp 16) = vA (enc8 .u8 ((rd a0 a1).1)) := d7 2 16 rfl rfl
 refine r_callFn Tryz.call176 (args1 f1) rfl (g_impl_powerOf_ok d3  hS) ?_
 rintro j7 j8 ⟨j9, k0, rfl, d8, hS, ⟨_, rfl, rfl⟩⟩
 refine ⟨_, rfl, ?_⟩
 exact qn d8 rfl hS rfl
 intro f2 k1 k2 k3 h1 hS d9 h2 hcq
 have f3 : ev f2 (.tmp 5) = vP a9 := Eq.trans (d9 5 rfl) rfl
 refine r_fieldAddr fld76_1 f3 rfl ?_
 exact qn (.refl _) rfl hS rfl
 intro f4 k4 k5 k6 h3 hS h4 e0 hcq
 have f5 : ev f4 (.tmp 18) = Value.pointer (some ⟨a9, 8, none⟩) := e0 4 18 rfl rfl
 refine r_loadOne (vI ((rd a0 a1).2)) ty2 f5 (hS.get (mR mL)) rfl rfl ?_
 exact qn (.refl _) rfl hS rfl
 intro c6 c7 c2 c0 hS b8 c1 hcq
 have hS : St c2 c7 ([(a9, cA (enc8 .u8 ((rd a0 a1).1) ++ [vI ((rd a0 a1).2)]) 76)] ++ (a4 ++ ([(b1, cA ([s0]) 47)] ++ L))) := hS
 have hsub := hsub.trans c0
 have b0 := b0.mono c0
 have a6 := a6.mono c0
 have f6 : ev c6 (.tmp 14) = m4 := c1 0 14 (by decide) rfl
 have f7 : ev c6 (.tmp 17) = vA (enc8 .i64 b4) := c1 3 17 (by decide) rfl
 have f8 : ev c6 (.tmp 19) = vI ((rd a0 a1).2) := c1 5 19 (by decide) rfl
 have hS : St c2 c7 (a4 ++ ([(a9, cA (enc8 .u8 ((rd a0 a1).1) ++ [vI ((rd a0 a1).2)]) 76)] ++ ([(b1, cA ([s0]) 47)] ++ L))) := hS.perm (perm1 (A1 := [(a9, cA (enc8 .u8 ((rd a0 a1).1) ++ [vI ((rd a0 a1).2)]) 76)]))
 refine r_mapUpdate (a := b4) (m := (rd a0 a1).2) mp109 (by exact f6) (by exact f7) (by exact f8) a6 hS ?_
 intro f9 c8 e1 hS
 have hS : St c2 f9 ([(a9, cA (enc8 .u8 ((rd a0 a1).1) ++ [vI ((rd a0 a1).2)]) 76)] ++ (c8 ++ ([(b1, cA ([s0]) 47)] ++ L))) := hS.perm (perm1 (A1 := [(a9, cA (enc8 .u8 ((rd a0 a1).1) ++ [vI ((rd a0 a1).2)]) 76)])).symm
 refine reg_nil (run_inBlock (run_region ?_))
 refine r_add (a1 + 1) (by exact (evT (b8 10 rfl) b2)) rfl (IntWalk.i64_in _ (by omega)) rfl (r_move (vI (a1 + 1)) rfl rfl (reg_nil ?_))
 have hS := St.dropA (A := [(a9, cA (enc8 .u8 ((rd a0 a1).1) ++ [vI ((rd a0 a1).2)]) 76)]) hS
 exact e4 _ _ ⟨(a1 + 1), (mput a3 b4 ((rd a0 a1).2)), c2, c8, a5, hsub, hS, (by omega), e1, b0, (evT (b8 3 rfl) b3), (evT (b8 8 rfl) b5), (evT (b8 9 rfl) b6), rfl⟩
 rw [if_neg b7] at a5
 refine run_cond_false (Eq.trans rfl (congrArg Value.bool (decide_eq_false b7))) ?_
 refine run_exit rfl ?_
 have hz := Option.some.inj a5
 subst hz
 exact e5 _ _ ⟨a3, c9, a4, rfl, hsub, hS, a6, b0, b3⟩
 exact ⟨0, ([] : MpT), H, C6, a5, hsub, hS, (by omega), e3, b0, rfl, rfl, rfl, rfl⟩
 rintro h5 h6 ⟨a7, h7, a8, rfl, hsub, hS, b9, b0, c3⟩
 dsimp only [Ex.elim] at c5
 refine run_seq (run_region (r_move (m4) (by exact c3) rfl (r_assign (m4) rfl rfl (reg_nil ?_))))
 refine run_ret (vs := [m4]) Tryz.func90 ⟨rfl, trivial⟩ ?_
 have hS := St.dropMid (A := a8) (B := [(b1, cA ([s0]) 47)]) hS
 have hz := Option.some.inj c5
 subst hz
 exact ⟨_, _, _, rfl, hsub, hS, b9⟩
def g_spec_l01Single (K : Nat) (a0 : A8) (a1 : Int) : Option MpT := ((g_spec_l01Mod K a1).bind fun r7 => (if r7 = 0 then some ([] : List (A8 × Int)) else ((g_spec_l01Mod K a1).bind fun a3 => some ([(a0, a3)]))))
theorem g_spec_l01Single_ok {K : Nat} {a0 : A8} {a1 : Int} {r : MpT} (q0 : g_spec_l01Single K a0 a1 = some r) {H : FH} {w : World} {L : OL} (hS : St H w L) :
 Calls Tryz.prog 170 #[vA (enc8 .u8 a0), vI a1] w (Done (fun v G => (R.agg (tySl yT)).p G v r) H L) := by
 have hsub := Sub.refl H
 refine calls_of_run Tryz.func170 rfl Tryz.ntmps170 rfl ?_
 unfold g_spec_l01Single at q0
 refine run_seq (run_region ?_)
 refine r_box (v := vA (enc8 .u8 a0)) (enc8 .u8 a0).toArray rfl rfl hS rfl ?_
 intro b1 w2 hS
 refine r_alloc (z := vA ([vN])) ([vN]).toArray ze47.zero rfl hS rfl ?_
 intro b4 w5 hS
 refine reg_nil (run_seq (run_seq (run_region (r_move (vI a1) rfl rfl ?_))))
 obtain ⟨r7, d1, q0⟩ := bind_some q0
 refine r_callFn Tryz.call217 (args1 rfl) rfl (g_spec_l01Mod_ok d1  hS) ?_
 rintro e7 w8 ⟨_, H7, rfl, d2, hS, rfl⟩
 refine ⟨_, rfl, ?_⟩
 have hsub := hsub.trans d2
 refine r_eql (k := .i64) (a := r7) (b := 0) rfl rfl rfl (reg_nil ?_)
 by_cases a6 : r7 = 0
 rw [if_pos a6] at q0
 refine run_cond_true (Eq.trans rfl (congrArg Value.bool (decide_eq_true a6))) (run_seq (run_region ?_))
 refine r_build0 (vA ([vN])) bz47 rfl ?_
 refine r_storeAll (v := vA ([vN])) (vs := ([vN]).toArray) (cs := ([vN]).toArray) ty47 rfl rfl rfl hS rfl (one1 rfl) rfl ?_
 intro g0 hS
 refine reg_nil ?_
 refine run_ret (vs := [vA ([vN])]) Tryz.func170 ⟨⟨_, rfl, run_loadAll ty47 (hS.get mL) rfl⟩, trivial⟩ ?_
 have hz := Option.some.inj q0
 subst hz
 exact ⟨_, _, rfl, hsub, (St.dropA (A := [(b1, cA (enc8 .u8 a0) 70)]) (St.dropA (A := [(b4, cA ([vN]) 47)]) hS)), ⟨_, rfl, ⟨_, rfl, RdSl.nil⟩⟩⟩
 rw [if_neg a6] at q0
 refine run_cond_false (Eq.trans rfl (congrArg Value.bool (decide_eq_false a6))) (run_skip (run_seq ?_))
 obtain ⟨a3, b8, q0⟩ := bind_some q0
 refine run_draw 6 (tabL [(9, MP.eq (vA (enc8 .u8 a0))), (10, MP.eq (vI a1)), (11, MP.eq (vI a3)), (12, MP.eq (vA (enc8 .u8 a0 ++ [vI a3]))), (13, MP.sl yT ([(a0, a3)])), (14, MP.rep (R.agg (tySl yT)) ([(a0, a3)]))]) [] mixed rfl rfl rfl hS (hop_q rfl ?_ (hop_q rfl ?_ (hop_q rfl ?_ (hop_q rfl ?_ (hop_q rfl ?_ (hop_q rfl ?_ hop_nil)))))) ?_
 intro d3 g1 g2 g3 e8 hS b9 e9 hcq
 have d4 : ev d3 (.tmp 2) = vP b1 := Eq.trans (b9 2 rfl) rfl
 refine r_loadAll ty70 d4 (hS.get (mR (mR mL))) rfl rfl ?_
 exact qn (.refl _) rfl hS rfl
 intro d5 g4 g5 g6 f0 hS c0 f1 hcq
 have d6 : ev d5 (.tmp 1) = vI a1 := Eq.trans (c0 1 rfl) rfl
 refine r_move (vI a1) d6 rfl ?_
 exact qn (.refl _) rfl hS rfl
 intro d7 g7 g8 g9 f2 hS f3 c1 hcq
 have d8 : ev d7 (.tmp 10) = vI a1 := c1 1 10 rfl rfl
 refine r_callFn Tryz.call217 (args1 d8) rfl (g_spec_l01Mod_ok b8  hS) ?_
 rintro h0 h1 ⟨_, h2, rfl, c2, hS, rfl⟩
 refine ⟨_, rfl, ?_⟩
 exact qn c2 rfl hS rfl
 intro a9 h3 h4 h5 f4 hS f5 a7 hcq
 have d9 : ev a9 (.tmp 9) = vA (enc8 .u8 a0) := a7 0 9 rfl rfl
 have e0 : ev a9 (.tmp 11) = vI a3 := a7 2 11 rfl rfl
 refine r_build (enc8 .u8 a0 ++ [vI a3]) bu76 (parts2 d9 e0) (fill_cons rfl rfl rfl (Nat.le_of_ble_eq_true rfl) (fill_cons rfl rfl rfl (Nat.le_of_ble_eq_true rfl) (fill_nil rfl))) rfl ?_
 exact qn (.refl _) rfl hS rfl
 intro e1 h6 h7 h8 f6 hS f7 c3 hcq
 have e2 : ev e1 (.tmp 12) = vA (enc8 .u8 a0 ++ [vI a3]) := c3 3 12 rfl rfl
 refine r_lit (τ := yT) sl45 ze76 rfl [vA (enc8 .u8 a0 ++ [vI a3])] [(a0, a3)] rfl rfl (parts1 e2) (rel1 ⟨_, _, rfl, rfl, rfl⟩) (by decide) (by decide) hS rfl ?_
 intro h9 i0 i1 c4 hS c5
 exact qn c4 rfl hS c5
 intro e3 i2 e4 i3 f8 hS f9 c6 hcq
 obtain ⟨b0, b2⟩ : ∃ v, ev e3 (.tmp 13) = v := ⟨_, rfl⟩
 have a8 : RdSl yT e4 b0 ([(a0, a3)]) := b2 ▸ (c6 4 13 rfl rfl)
 refine r_build ([b0]) bu47 (parts1 b2) (fill_cons rfl a8.cellsL rfl (Nat.le_of_ble_eq_true rfl) (fill_nil rfl)) rfl ?_
 exact qn (.refl _) rfl hS ⟨_, rfl, ⟨_, rfl, a8⟩⟩
 intro b3 e5 b5 c7 hS c8 c9 hcq
 have hS : St b5 e5 ([(b4, cA ([vN]) 47)] ++ ([(b1, cA (enc8 .u8 a0) 70)] ++ L)) := hS
 have hsub := hsub.trans c7
 have b6 : ev b3 (.tmp 4) = vP b4 := Eq.trans (c8 4 rfl) rfl
 obtain ⟨e6, b7⟩ : ∃ v, ev b3 (.tmp 14) = v := ⟨_, rfl⟩
 have d0 : (R.agg (tySl yT)).p b5 e6 ([(a0, a3)]) := b7 ▸ (c9 5 14 (by decide) rfl)
 obtain ⟨_, rfl, ⟨a4, rfl, a5⟩⟩ := d0
 refine r_storeAll (v := vA ([a4])) (vs := ([a4]).toArray) (cs := ([vN]).toArray) ty47 (by exact b6) (by exact b7) rfl hS rfl (one1 a5.isOne) rfl ?_
 intro i4 hS
 refine reg_nil ?_
 refine run_ret (vs := [vA ([a4])]) Tryz.func170 ⟨⟨_, (by exact b6), run_loadAll ty47 (hS.get mL) rfl⟩, trivial⟩ ?_
 have hz := Option.some.inj q0
 subst hz
 exact ⟨_, _, rfl, hsub, (St.dropA (A := [(b1, cA (enc8 .u8 a0) 70)]) (St.dropA (A := [(b4, cA ([a4]) 47)]) hS)), ⟨_, rfl, ⟨_, rfl, a5⟩⟩⟩
def g_impl_ownSums_l0 (K : Nat) (a0 : Int) : Nat → Int → (List MpT) → Option (Ex (List MpT) ((List MpT)))
 | 0, _, _ => none
 | k + 1, a4, a3 => (if a4 < a0 then ((g_impl_generator K a4).bind fun b2 => (if a3.length + ([(mput ([] : MpT) b2 1)]).length ≤ 1099511627776 then g_impl_ownSums_l0 K a0 k (IntKind.i64.wrap (a4 + 1)) (a3 ++ [(mput ([] : MpT) b2 1)]) else none)) else some (.go a3))
def g_impl_ownSums (K : Nat) (a0 : Int) : Option (List MpT) := ((g_impl_ownSums_l0 K a0 K 0 ([] : List MpT)).bind (Ex.elim (fun r => some r) (fun s => (fun (a9 : (List MpT)) => some a9) s)))
theorem g_impl_ownSums_ok {K : Nat} {a0 : Int} {r : (List MpT)} (q0 : g_impl_ownSums K a0 = some r) {H : FH} {w : World} {L : OL} (hS : St H w L) :
 Calls Tryz.prog 147 #[vI a0] w (DoneS (tyMp .i64) 109 r H L) := by
 have hsub := Sub.refl H
 refine calls_of_run Tryz.func147 rfl Tryz.ntmps147 rfl ?_
 unfold g_impl_ownSums at q0
 refine run_seq (run_region (r_assign (vN) rfl rfl (reg_nil (run_seq (run_region ?_)))))
 refine r_lit0 (τ := (tyMp .i64)) sl184 ze109 rfl hS rfl ?_
 intro u1 w2 C3 d2 hS
 refine r_assign (u1) rfl rfl (reg_nil (run_seq (run_seq (run_region (r_move (vI a0) rfl rfl (r_move (vI 0) rfl rfl (reg_nil (run_block ?_))))))))
 obtain ⟨c0, a5, c1⟩ := bind_some q0
 refine loop_ind (id := 0) (fun k f w => ∃ (a4 : Int) (a3 : (List MpT)) (H1 : FH) (a8 : OL) (a6 : Value), g_impl_ownSums_l0 K a0 k a4 a3 = some c0 ∧ Sub H H1 ∧ St H1 w (a8 ++ L) ∧ OwnSl (tyMp .i64) 109 H1 a6 a3 a8 ∧ ev f (.tmp 3) = a6 ∧ ev f (.tmp 6) = vI a0 ∧ ev f (.tmp 7) = vI a4) (fun f w => ∃ (a9 : (List MpT)) (H1 : FH) (b0 : OL) (a7 : Value), c0 = .go a9 ∧ Sub H H1 ∧ St H1 w (b0 ++ L) ∧ OwnSl (tyMp .i64) 109 H1 a7 a9 b0 ∧ ev f (.tmp 3) = a7) rfl ?_ ?_ K ?_ ?_
 rintro f w ⟨a4, a3, H1, a8, a6, a5, _⟩
 rw [g_impl_ownSums_l0] at a5; cases a5
 rintro k d7 d8 d3 d4 ⟨a4, a3, c5, a8, a6, a5, hsub, hS, a1, b3, b4, b1⟩
 rw [g_impl_ownSums_l0] at a5
 refine run_seq (run_region ?_)
 refine r_lss (k := .i64) (a := a4) (b := a0) (by exact b1) (by exact b4) rfl (reg_nil (run_seq ?_))
 by_cases b8 : a4 < a0
 rw [if_pos b8] at a5
 refine run_cond_true (Eq.trans rfl (congrArg Value.bool (decide_eq_true b8))) (run_skip (run_seq (run_block (run_seq (run_region (r_move (vI a4) (by exact b1) rfl (r_assign (vI a4) rfl rfl (reg_nil (run_region (r_move (a6) (by exact b3) rfl ?_))))))))))
 refine r_makeMap (k := .i64) hS rfl ?_
 intro m7 w8 C9 b6 hS
 refine r_move (vI a4) rfl rfl ?_
 obtain ⟨b2, c6, a5⟩ := bind_some a5
 refine r_callFn Tryz.call151 (args1 rfl) rfl (g_impl_generator_ok c6  hS) ?_
 rintro e2 e3 ⟨e4, e5, rfl, b7, hS, ⟨_, rfl, rfl⟩⟩
 refine ⟨_, rfl, ?_⟩
 have hsub := hsub.trans b7
 have a1 := a1.mono b7
 have b6 := b6.mono b7
 refine r_insert (a := b2) (m := 1) mp109 rfl rfl rfl b6 hS ?_
 intro e6 e7 c7 hS
 refine r_move (m7) rfl rfl ?_
 obtain ⟨e8, c2, hS, c8⟩ := c7.freeze hS
 have hsub := hsub.trans c2
 have a1 := a1.mono c2
 refine r_lit (τ := (tyMp .i64)) sl184 ze109 rfl [m7] [(mput ([] : MpT) b2 1)] rfl rfl (parts1 rfl) (rel1 c8.relv) (by decide) (by decide) hS rfl ?_
 intro e9 d5 f0 c3 hS c9
 have hsub := hsub.trans c3
 have a1 := a1.mono c3
 obtain ⟨d0, a5⟩ := gd a5
 refine r_append (τ := (tyMp .i64)) ap184 rfl rfl rfl a1 hS c9 d0 rfl ?_
 intro c4 f1 d6 d1 hS
 refine r_assign (c4) rfl rfl (reg_nil (run_inBlock (run_region ?_)))
 refine r_add (IntKind.i64.wrap (a4 + 1)) (by exact b1) rfl rfl rfl (r_move (vI (IntKind.i64.wrap (a4 + 1))) rfl rfl (reg_nil ?_))
 exact d3 _ _ ⟨(IntKind.i64.wrap (a4 + 1)), (a3 ++ [(mput ([] : MpT) b2 1)]), d5, d6, c4, a5, hsub, hS, d1, rfl, b4, rfl⟩
 rw [if_neg b8] at a5
 refine run_cond_false (Eq.trans rfl (congrArg Value.bool (decide_eq_false b8))) ?_
 refine run_exit rfl ?_
 have hz := Option.some.inj a5
 subst hz
 exact d4 _ _ ⟨a3, c5, a8, a6, rfl, hsub, hS, a1, b3⟩
 exact ⟨0, ([] : List MpT), H, C3, u1, a5, hsub, hS, d2, rfl, rfl, rfl⟩
 rintro d9 e0 ⟨a9, e1, b0, a7, rfl, hsub, hS, b5, b9⟩
 dsimp only [Ex.elim] at c1
 refine run_seq (run_region (r_move (a7) (by exact b9) rfl (r_assign (a7) rfl rfl (reg_nil ?_))))
 refine run_ret (vs := [a7]) Tryz.func147 ⟨rfl, trivial⟩ ?_
 have hz := Option.some.inj c1
 subst hz
 exact ⟨_, _, _, rfl, hsub, hS, b5⟩
def g_impl_sum_add (K : Nat) (a0 : MpT) (a1 : A8) (a2 : Int) : Option MpT := (if nfm a0 = true ∧ -4611686018427387904 ≤ a2 ∧ a2 ≤ 4611686018427387904 then ((g_impl_field K (IntKind.i64.wrap ((mget a0 a1) + a2))).bind fun r4 => (if r4 = 0 then some (mdel a0 a1) else some (mput a0 a1 r4))) else none)
theorem g_impl_sum_add_ok {K : Nat} {a0 : MpT} {a1 : A8} {a2 : Int} {r : MpT} (q0 : g_impl_sum_add K a0 a1 a2 = some r) {H : FH} {w : World} {L C0 : OL} {s0 : Value} (a3 : OwnMp .i64 s0 a0 C0) (hS : St H w (C0 ++ L)) :
 Calls Tryz.prog 225 #[s0, vA (enc8 .i64 a1), vI a2] w (DoneP .i64 s0 r H L) := by
 have hsub := Sub.refl H
 refine calls_of_run Tryz.func225 rfl Tryz.ntmps225 rfl ?_
 unfold g_impl_sum_add at q0
 obtain ⟨hG, q0⟩ := gd q0
 refine run_seq (run_region ?_)
 refine r_box (v := vA (enc8 .i64 a1)) (enc8 .i64 a1).toArray rfl rfl hS rfl ?_
 intro b1 w2 hS
 refine reg_nil (run_seq (run_region (r_move (s0) rfl rfl ?_)))
 refine r_loadAll ty188 rfl (hS.get mL) rfl rfl ?_
 have hS : St H w2 (C0 ++ ([(b1, cA (enc8 .i64 a1) 188)] ++ L)) := hS.perm (perm1 (A1 := [(b1, cA (enc8 .i64 a1) 188)]))
 refine r_lookupO (a := a1) mp109 rfl rfl a3 hS rfl ?_
 have hS : St H w2 ([(b1, cA (enc8 .i64 a1) 188)] ++ (C0 ++ L)) := hS.perm (perm1 (A1 := [(b1, cA (enc8 .i64 a1) 188)])).symm
 refine r_move (vI a2) rfl rfl ?_
 refine r_add (IntKind.i64.wrap ((mget a0 a1) + a2)) rfl rfl rfl rfl ?_
 obtain ⟨r4, a9, q0⟩ := bind_some q0
 refine r_callFn Tryz.call215 (args1 rfl) rfl (g_impl_field_ok a9  hS) ?_
 rintro e4 w5 ⟨_, H4, rfl, a6, hS, rfl⟩
 refine ⟨_, rfl, ?_⟩
 have hsub := hsub.trans a6
 have a3 := a3.mono a6
 refine r_assign (vI r4) rfl rfl (reg_nil (run_seq (run_region (r_move (vI r4) rfl rfl ?_))))
 refine r_neq (k := .i64) (a := r4) (b := 0) rfl rfl rfl (reg_nil ?_)
 by_cases a4 : r4 = 0
 rw [if_pos a4] at q0
 refine run_cond_false (Eq.trans rfl (congrArg (fun b => Value.bool (!b)) (decide_eq_true a4))) (run_region (r_move (s0) rfl rfl ?_))
 refine r_loadAll ty188 rfl (hS.get mL) rfl rfl ?_
 have hS : St H4 w5 (C0 ++ ([(b1, cA (enc8 .i64 a1) 188)] ++ L)) := hS.perm (perm1 (A1 := [(b1, cA (enc8 .i64 a1) 188)]))
 refine r_delete (a := a1) mp109 rfl rfl a3 hS ?_
 intro w7 C8 b0 hS
 have hS : St H4 w7 ([(b1, cA (enc8 .i64 a1) 188)] ++ (C8 ++ L)) := hS.perm (perm1 (A1 := [(b1, cA (enc8 .i64 a1) 188)])).symm
 refine reg_nil ?_
 refine run_end (vs := []) Tryz.func225 trivial ?_
 have hS : St H4 w7 (C8 ++ ([(b1, cA (enc8 .i64 a1) 188)] ++ L)) := hS.perm (perm1 (A1 := [(b1, cA (enc8 .i64 a1) 188)]))
 have hS := St.dropMid (A := C8) (B := [(b1, cA (enc8 .i64 a1) 188)]) hS
 have hz := Option.some.inj q0
 subst hz
 exact ⟨_, _, rfl, hsub, hS, b0⟩
 rw [if_neg a4] at q0
 refine run_cond_true (Eq.trans rfl (congrArg (fun b => Value.bool (!b)) (decide_eq_false a4))) (run_region (r_move (s0) rfl rfl ?_))
 refine r_loadAll ty188 rfl (hS.get mL) rfl rfl (r_move (vI r4) rfl rfl ?_)
 have hS : St H4 w5 (C0 ++ ([(b1, cA (enc8 .i64 a1) 188)] ++ L)) := hS.perm (perm1 (A1 := [(b1, cA (enc8 .i64 a1) 188)]))
 refine r_mapUpdate (a := a1) (m := r4) mp109 rfl rfl rfl a3 hS ?_
 intro a7 a5 a8 hS
 have hS : St H4 a7 ([(b1, cA (enc8 .i64 a1) 188)] ++ (a5 ++ L)) := hS.perm (perm1 (A1 := [(b1, cA (enc8 .i64 a1) 188)])).symm
 refine reg_nil ?_
 refine run_end (vs := []) Tryz.func225 trivial ?_
 have hS : St H4 a7 (a5 ++ ([(b1, cA (enc8 .i64 a1) 188)] ++ L)) := hS.perm (perm1 (A1 := [(b1, cA (enc8 .i64 a1) 188)]))
 have hS := St.dropMid (A := a5) (B := [(b1, cA (enc8 .i64 a1) 188)]) hS
 have hz := Option.some.inj q0
 subst hz
 exact ⟨_, _, rfl, hsub, hS, a8⟩
def g_laws_eqTerm (K : Nat) (a0 : (A8 × Int)) (a1 : (A8 × Int)) : Option Bool := ((g_laws_eqMonomial K a0.1 a1.1).bind fun r7 => (if r7 = true then (if a0.2 = a1.2 then some true else some false) else some false))
theorem g_laws_eqTerm_ok {K : Nat} {a0 : (A8 × Int)} {a1 : (A8 × Int)} {r : Bool} (q0 : g_laws_eqTerm K a0 a1 = some r) {H : FH} {w : World} {L : OL} (hS : St H w L) :
 Calls Tryz.prog 201 #[vA (enc8 .u8 a0.1 ++ [vI a0.2]), vA (enc8 .u8 a1.1 ++ [vI a1.2])] w (Done (fun v G => R.bool.p G v r) H L) := by
 have hsub := Sub.refl H
 refine calls_of_run Tryz.func201 rfl Tryz.ntmps201 rfl ?_
 unfold g_laws_eqTerm at q0
 refine run_seq (run_region ?_)
 refine r_box (v := vA (enc8 .u8 a0.1 ++ [vI a0.2])) (enc8 .u8 a0.1 ++ [vI a0.2]).toArray rfl rfl hS rfl ?_
 intro b1 w2 hS
 refine r_box (v := vA (enc8 .u8 a1.1 ++ [vI a1.2])) (enc8 .u8 a1.1 ++ [vI a1.2]).toArray rfl rfl hS rfl ?_
 intro b4 w5 hS
 refine r_assign (Value.bool false) rfl rfl (reg_nil (run_seq (run_seq (run_region (r_fieldAddr fld76_0 rfl rfl ?_)))))
 refine r_loadAgg (enc8 .u8 a0.1) ty70 rfl (hS.get (o := cA (enc8 .u8 a0.1 ++ [vI a0.2]) 76) (mR mL)) rfl (fun j hj => sub_box ([]) (enc8 .u8 a0.1) (([vI a0.2])) j hj) rfl (r_fieldAddr fld76_0 rfl rfl ?_)
 refine r_loadAgg (enc8 .u8 a1.1) ty70 rfl (hS.get (o := cA (enc8 .u8 a1.1 ++ [vI a1.2]) 76) mL) rfl (fun j hj => sub_box ([]) (enc8 .u8 a1.1) (([vI a1.2])) j hj) rfl ?_
 obtain ⟨r7, a5, q0⟩ := bind_some q0
 refine r_callFn Tryz.call268 (args2 rfl rfl) rfl (g_laws_eqMonomial_ok a5  hS) ?_
 rintro e7 w8 ⟨_, H7, rfl, a6, hS, rfl⟩
 refine ⟨_, rfl, ?_⟩
 have hsub := hsub.trans a6
 refine r_not (b := r7) rfl rfl (reg_nil ?_)
 by_cases a4 : r7 = true
 rw [if_pos a4] at q0
 refine run_cond_false (Eq.trans rfl (congrArg (fun b => Value.bool (!b)) a4)) (run_skip (run_seq (run_seq (run_region (r_fieldAddr fld76_1 rfl rfl ?_)))))
 refine r_loadOne (vI a0.2) ty2 rfl (hS.get (mR mL)) rfl rfl (r_fieldAddr fld76_1 rfl rfl ?_)
 refine r_loadOne (vI a1.2) ty2 rfl (hS.get mL) rfl rfl ?_
 refine r_neq (k := .i64) (a := a0.2) (b := a1.2) rfl rfl rfl (reg_nil ?_)
 by_cases a3 : a0.2 = a1.2
 rw [if_pos a3] at q0
 refine run_cond_false (Eq.trans rfl (congrArg (fun b => Value.bool (!b)) (decide_eq_true a3))) (run_skip (run_seq (run_region (r_assign (Value.bool true) rfl rfl (reg_nil ?_)))))
 refine run_ret (vs := [Value.bool true]) Tryz.func201 ⟨rfl, trivial⟩ ?_
 have hz := Option.some.inj q0
 subst hz
 exact ⟨_, _, rfl, hsub, (St.dropA (A := [(b1, cA (enc8 .u8 a0.1 ++ [vI a0.2]) 76)]) (St.dropA (A := [(b4, cA (enc8 .u8 a1.1 ++ [vI a1.2]) 76)]) hS)), rfl⟩
 rw [if_neg a3] at q0
 refine run_cond_true (Eq.trans rfl (congrArg (fun b => Value.bool (!b)) (decide_eq_false a3))) (run_seq (run_region (r_assign (Value.bool false) rfl rfl (reg_nil ?_))))
 refine run_ret (vs := [Value.bool false]) Tryz.func201 ⟨rfl, trivial⟩ ?_
 have hz := Option.some.inj q0
 subst hz
 exact ⟨_, _, rfl, hsub, (St.dropA (A := [(b1, cA (enc8 .u8 a0.1 ++ [vI a0.2]) 76)]) (St.dropA (A := [(b4, cA (enc8 .u8 a1.1 ++ [vI a1.2]) 76)]) hS)), rfl⟩
 rw [if_neg a4] at q0
 refine run_cond_true (Eq.trans rfl (congrArg (fun b => Value.bool (!b)) (bfalse a4))) (run_seq (run_region (r_assign (Value.bool false) rfl rfl (reg_nil ?_))))
 refine run_ret (vs := [Value.bool false]) Tryz.func201 ⟨rfl, trivial⟩ ?_
 have hz := Option.some.inj q0
 subst hz
 exact ⟨_, _, rfl, hsub, (St.dropA (A := [(b1, cA (enc8 .u8 a0.1 ++ [vI a0.2]) 76)]) (St.dropA (A := [(b4, cA (enc8 .u8 a1.1 ++ [vI a1.2]) 76)]) hS)), rfl⟩
def g_slices_ContainsFunc_Simpl_Form_impl_Form (K : Nat) (a0 : (List MpT)) (a1 : (MpT → Option Bool)) : Option Bool := ((g_slices_IndexFunc_Simpl_Form_impl_Form K a0 a1).bind fun r1 => some (decide (0 ≤ r1)))
theorem g_slices_ContainsFunc_Simpl_Form_impl_Form_ok {K : Nat} {a0 : (List MpT)} {a1 : (MpT → Option Bool)} {r : Bool} (q0 : g_slices_ContainsFunc_Simpl_Form_impl_Form K a0 a1 = some r) {H : FH} {w : World} {L : OL} {s0 : Value} {s1 : Value} (a3 : RdSl (tySl yT) H s0 a0) (a4 : FnQ Tryz.prog s1 (R.agg (tySl yT)) a1 H) (hS : St H w L) :
 Calls Tryz.prog 127 #[s0, s1] w (Done (fun v G => R.bool.p G v r) H L) := by
 have hsub := Sub.refl H
 refine calls_of_run Tryz.func127 rfl Tryz.ntmps127 rfl ?_
 unfold g_slices_ContainsFunc_Simpl_Form_impl_Form at q0
 refine run_seq (run_region (r_assign (Value.bool false) rfl rfl (reg_nil (run_seq (run_region (r_move (s0) rfl rfl (r_move (s1) rfl rfl ?_)))))))
 obtain ⟨r1, a5, q0⟩ := bind_some q0
 refine r_callFn Tryz.call222 (args2 rfl rfl) rfl (g_slices_IndexFunc_Simpl_Form_impl_Form_ok a5 a3 a4 hS) ?_
 rintro e1 w2 ⟨_, H1, rfl, a6, hS, rfl⟩
 refine ⟨_, rfl, ?_⟩
 have hsub := hsub.trans a6
 refine r_geq (k := .i64) (a := r1) (b := 0) rfl rfl rfl (r_assign (Value.bool (decide (0 ≤ r1))) rfl rfl (reg_nil ?_))
 refine run_ret (vs := [Value.bool (decide (0 ≤ r1))]) Tryz.func127 ⟨rfl, trivial⟩ ?_
 have hz := Option.some.inj q0
 subst hz
 exact ⟨_, _, rfl, hsub, hS, rfl⟩
def g_impl_isFactor (K : Nat) (a0 : Int) : Option Bool := ((g_impl_within K a0 1 10006).bind fun r1 => some r1)
theorem g_impl_isFactor_ok {K : Nat} {a0 : Int} {r : Bool} (q0 : g_impl_isFactor K a0 = some r) {H : FH} {w : World} {L : OL} (hS : St H w L) :
 Calls Tryz.prog 150 #[vI a0] w (Done (fun v G => R.bool.p G v r) H L) := by
 have hsub := Sub.refl H
 refine calls_of_run Tryz.func150 rfl Tryz.ntmps150 rfl ?_
 unfold g_impl_isFactor at q0
 refine run_seq (run_region (r_assign (Value.bool false) rfl rfl (reg_nil (run_seq (run_region (r_move (vI a0) rfl rfl ?_))))))
 obtain ⟨r1, a1, q0⟩ := bind_some q0
 refine r_callFn Tryz.call97 (args3 rfl rfl rfl) rfl (g_impl_within_ok a1  hS) ?_
 rintro e1 w2 ⟨_, H1, rfl, a3, hS, rfl⟩
 refine ⟨_, rfl, ?_⟩
 have hsub := hsub.trans a3
 refine r_assign (Value.bool r1) rfl rfl (reg_nil ?_)
 refine run_ret (vs := [Value.bool r1]) Tryz.func150 ⟨rfl, trivial⟩ ?_
 have hz := Option.some.inj q0
 subst hz
 exact ⟨_, _, rfl, hsub, hS, rfl⟩
end Go.Proofs.YtfodlhkoafhplaaGreat
