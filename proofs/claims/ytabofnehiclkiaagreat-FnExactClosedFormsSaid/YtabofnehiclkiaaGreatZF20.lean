/- Walks of functions: each computes its pure function, if that gives a value. -/
import Derived.Test.YtabofnehiclkiaaGreatZF19
namespace Go.Proofs.YtabofnehiclkiaaGreat
open Go Go.Proofs.Tryz
set_option linter.unusedSimpArgs false
set_option linter.unusedVariables false
set_option maxRecDepth 100000
set_option maxHeartbeats 8000000
variable {K : Nat} {H : FH} {w : World} {L : OL} {s0 s1 s2 s3 s4 s5 s6 : Value}
theorem Xl6 (n : Nat) : Builtin.zeroCells (Value.int .i64 0).cells n = (List.replicate n (vI 0)).toArray := by
 apply Array.ext
 rw [size_zeroCells]; simp [Value.cells]
 intro i h1 h2
 have : i < n := by simpa using h2
 simp only [Builtin.zeroCells, Value.cells]
 simp [Nat.mod_one]
theorem Xc9 {H : FH} {w : World} {L C : OL} {v : Value} {xs : List Int} {ty : TypeId} (n : Nat) (ho : X8 (Y5 .i64) 2 H v xs C) (hS : St H w (C ++ L)) (hb : xs.length + n ≤ 1099511627776) :
 ∃ v' w' C', (Builtin.append_ #[22, 3] ty #[v, .int .i64 n]).run prog w = .ok v' w' ∧ X8 (Y5 .i64) 2 H v' (xs ++ List.replicate n 0) C' ∧ St H w' (C' ++ L) := by
 obtain ⟨info, hi, hz, hsz, hby⟩ := Yb7.info
 have ht := Yb7.under
 have hk := underlying3
 have hw : IntKind.i64.wrap (n : Int) = n := IntWalk.i64_in _ (by omega)
 have hm : (xs.length + n) * info.bytes ≤ 140737488355328 := by
  rw [hby]
  calc (xs.length + n) * 8 ≤ 1099511627776 * 128 := Nat.mul_le_mul hb (by decide)
   _ = 140737488355328 := by decide
 have hm' : ¬ (281474976710656 < (n : Int) * (info.bytes : Int)) := by
  have h1 : (n : Int) * (info.bytes : Int) = ((n * info.bytes : Nat) : Int) := by simp
  have h2 : n * info.bytes ≤ (xs.length + n) * info.bytes := Nat.mul_le_mul_right _ (by omega)
  rw [h1]; omega
 have h1 : ¬ ((n : Int) < 0) := by omega
 have hw0 : IntKind.i64.wrap 0 = 0 := IntWalk.i64_in _ (by omega)
 by_cases h0 : n = 0
 subst h0
 refine ⟨v, w, C, ?_, by simpa using ho, hS⟩
 rcases ho with ⟨rfl, rfl, rfl⟩ | ⟨b, c, cs, rfl, k1, k2, k3, rfl, k5⟩
 simp [Builtin.append_, run_underlying ht, run_underlying hk, sizeOf, typeInfo, hi, asInt, asIntOf, hw0, Builtin.firstCells]
 simp [Builtin.append_, run_underlying ht, run_underlying hk, sizeOf, typeInfo, hi, asInt, asIntOf, hw0, Builtin.firstCells, k1, storeCells]
 have hrel : ∀ (ys : List Int) (cells : Array Value) (c : Nat), cells.size = c * 1 → (∀ (i : Nat) (x : Int), ys[i]? = some x → cells[i]? = some (vI x)) → ∀ (i : Nat) (x : Int), ys[i]? = some x → ∃ ecs, (Y5 .i64).rel H ecs x ∧ ∀ j, j < (Y5 .i64).size → cells[i * (Y5 .i64).size + j]? = ecs[j]? := by
  intro ys cells c _ h i x hx
  refine ⟨[vI x], rfl, fun j hj => ?_⟩
  have hj : j < 1 := hj
  obtain rfl : j = 0 := by omega
  have := h i x hx
  show cells[i * 1 + 0]? = _
  rw [Nat.mul_one, Nat.add_zero, this]; rfl
 rcases ho with ⟨rfl, rfl, rfl⟩ | ⟨b, c, cs, rfl, k1, k2, k3, rfl, k5⟩
 have hr := Ym2 (P := prog) w 22 3 ty 2 info _ ht hk hi hz hsz (by omega) n (by omega) (by simpa using hb)
 have hg := grownCap_ge w n 0 2
 refine ⟨_, _, [(w.heap.size, _)], hr, .inr ⟨_, grownCap w n 0 2, _, by simp, by simpa using hg, grownCap_le_maxLen w _ _ _ (by simp only [maxLen, List.length_nil] at *; omega), ?_, rfl, ?_⟩, (hS.drew).alloc _⟩
 rw [Array.size_append, size_zeroCells, size_zeroCells]
 show n * 1 + (grownCap w n 0 2 - n) * 1 = grownCap w n 0 2 * 1
 omega
 refine hrel _ _ (grownCap w n 0 2) ?_ ?_
 rw [Array.size_append, size_zeroCells, size_zeroCells]
 show n * 1 + (grownCap w n 0 2 - n) * 1 = grownCap w n 0 2 * 1
 omega
 intro i x hx
 rw [List.nil_append, List.getElem?_replicate] at hx
 split at hx
 rename_i hin
 cases hx
 rw [Xl6, Array.getElem?_append_left (by simpa using hin)]
 simp [hin]
 cases hx
 have hcell : ∀ (i : Nat) (x : Int), xs[i]? = some x → cs[i]? = some (vI x) := by
  intro i x hx
  obtain ⟨ecs, hr, hj⟩ := k5 i x hx
  cases hr
  have := hj 0 (show 0 < 1 by decide)
  simpa [show (Y5 IntKind.i64).size = 1 from rfl] using this
 have hcs : cs.size = c := by have : cs.size = c * 1 := k3; omega
 have hbw := hS.hd (L := L)
 by_cases hroom : xs.length + n ≤ c
 have hst := Ye1 (P := prog) (b := b) (off := 0 + xs.length * info.size) (E := 2) (List.replicate n (vI 0)) cs w 0 hbw (by intro u hu; rw [(List.mem_replicate.1 hu).2]; rfl) (by rw [hsz, List.length_replicate]; omega)
 rw [if_neg (by simp [h0])] at hst
 refine ⟨.slice (some ⟨b, 0, none⟩) (xs.length + n) c, _, [(b, .cells (D7 cs (0 + xs.length * info.size + 0) (List.replicate n (vI 0))) 2)], ?_, .inr ⟨b, c, _, by simp, by simpa using hroom, k2, ?_, rfl, ?_⟩, St.withBlk (L := L) hS _⟩
 rw [hsz] at hst
 have ha : ((⟨b, 0, none⟩ : Addr).add (xs.length * 1)) = ⟨b, 0 + xs.length * 1, none⟩ := R7 ..
 have hz1 : (Value.int .i64 0).cells = (Value.int .i64 0).cells := rfl
 simp [Builtin.append_, run_underlying ht, run_underlying hk, sizeOf, typeInfo, zeroValue, hi, hz, asInt, asIntOf, hw, hm', h0, h1, hsz, hroom, Xl6]
 simp at hst ha
 rw [ha, hst]
 simp
 rw [Zz4]; exact k3
 refine hrel _ _ c (by rw [Zz4]; exact k3) ?_
 intro i x hx
 rw [Zx9 _ _ _ _ (by rw [hsz, List.length_replicate]; omega), hsz, List.length_replicate]
 by_cases hlt : i < xs.length
 rw [List.getElem?_append_left hlt] at hx
 rw [if_neg (by omega)]
 exact hcell i x hx
 rw [List.getElem?_append_right (by omega), List.getElem?_replicate] at hx
 split at hx
 rename_i hin
 cases hx
 rw [if_pos (by omega), List.getElem?_replicate, if_pos (by omega)]
 cases hx
 have holds : ∀ (j : Nat) (u : Value), (xs.map vI)[j]? = some u → w.drew.cell? ((⟨b, 0, none⟩ : Addr).add j) = some u := fun j u hj => by
  rw [List.getElem?_map] at hj
  obtain ⟨x, hx, rfl⟩ := Option.map_eq_some_iff.1 hj
  have hbd : w.drew.heap[b]? = some (.cells cs 2) := hbw
  rw [R7, Yd4 hbd, Nat.zero_add]
  exact hcell j x hx
 have hfo := run_firstCells_some (P := prog) w.drew 1 xs.length ⟨b, 0, none⟩ xs.length c (xs.map vI) (by simp) holds
 have hg := grownCap_ge w (xs.length + n) c 2
 have hfit := growslice_fits (need := xs.length + n) (old := c) (bytes := info.bytes) (by omega) hm
 refine ⟨.slice (some ⟨w.heap.size, 0, none⟩) (xs.length + n) (grownCap w (xs.length + n) c 2), w.drew.alloc (.cells ((xs.map vI).toArray ++ (List.replicate n (vI 0)).toArray ++ Builtin.zeroCells (Value.int .i64 0).cells (grownCap w (xs.length + n) c 2 - (xs.length + n))) 2), [(w.heap.size, _)], ?_, .inr ⟨_, grownCap w (xs.length + n) c 2, _, by simp, by simpa using hg, grownCap_le_maxLen w _ _ _ (by simp only [maxLen]; omega), ?_, rfl, ?_⟩, (hS.tl.drew).alloc _⟩
 have h63 : ¬ (9223372036854775807 < ((xs.length : Int) + (n : Int))) := by omega
 have h48 : ¬ (281474976710656 < Builtin.nextslicecap (xs.length + n) c * info.bytes) := by omega
 simp [Builtin.append_, run_underlying ht, run_underlying hk, sizeOf, typeInfo, zeroValue, hi, hz, asInt, asIntOf, hw, hm', h0, h1, hsz, hroom, h63, h48, Xl6, Question.forced, newRow, grownCap, hfo]
 rw [Array.size_append, Array.size_append, size_zeroCells]
 simp only [List.size_toArray, List.length_map, List.length_replicate]
 show xs.length + n + (grownCap w (xs.length + n) c 2 - (xs.length + n)) * 1 = grownCap w (xs.length + n) c 2 * 1
 omega
 refine hrel _ _ (grownCap w (xs.length + n) c 2) ?_ ?_
 rw [Array.size_append, Array.size_append, size_zeroCells]
 simp only [List.size_toArray, List.length_map, List.length_replicate]
 show xs.length + n + (grownCap w (xs.length + n) c 2 - (xs.length + n)) * 1 = grownCap w (xs.length + n) c 2 * 1
 omega
 intro i x hx
 have hlt : i < (xs ++ List.replicate n (0 : Int)).length := (List.getElem?_eq_some_iff.1 hx).1
 rw [List.length_append, List.length_replicate] at hlt
 rw [Array.getElem?_append_left (by simp; omega), List.append_toArray, List.getElem?_toArray]
 have e : xs.map vI ++ List.replicate n (vI 0) = (xs ++ List.replicate n 0).map vI := by simp
 rw [e, List.getElem?_map, hx]; rfl
section
variable {n : Nat} {ops : Array Oper} {J : Fr → World → Prop} {r : List Oper} {f : Fr} {w : World} {d : Nat} {T : TypeId} {pos : String} {af : Array Edge} {H : FH} {L C : OL}
theorem Wj3 {x y : Operand} {v : Value} {xs : List Int} {m : Int} (hx : ev f x = v) (hy : ev f y = vI m) (h0 : 0 ≤ m) (ho : X8 (Y5 .i64) 2 H v xs C) (hS : St H w (C ++ L)) (hb : xs.length + m.toNat ≤ 1099511627776) (hn : Nat.blt d n = true)
 (K : ∀ v' w' C', X8 (Y5 .i64) 2 H v' (xs ++ List.replicate m.toNat 0) C' → St H w' (C' ++ L) → X6 prog n ops J r (upd f d v') w') :
 X6 prog n ops J (⟨some d, .call ⟨.builtin .append, #[x, y], #[22, 3]⟩, T, pos, af, none⟩ :: r) f w := by
 obtain ⟨k, rfl⟩ := Int.eq_ofNat_of_zero_le h0
 rw [Int.toNat_natCast] at hb K
 obtain ⟨v', w', C', hr, ho', hS'⟩ := Xc9 (ty := T) k ho hS hb
 refine V6 rfl rfl hn ?_ (K v' w' C' ho' hS')
 simp only [execOp, resolve, invoke, builtin, Sem.run_bind, Sem.run_pure, Result.andThen_ok, List.map_toArray, List.map_cons, List.map_nil, hx, hy, hr]
end
def Zh3 (K : Nat) (xs : List (List Int)) : Option (List Int) := if xs.flatten.length ≤ 1099511627776 then some xs.flatten else none
theorem Xn6 (xs : List (List Int)) {m : Nat} (hm : m < xs.length) : (xs.take (m + 1)).flatten = (xs.take m).flatten ++ xs[m] := by
 rw [List.take_add_one, List.getElem?_eq_getElem hm, List.flatten_append]
 exact congrArg _ (by simp)
theorem Wa6 (xs : List (List Int)) (m : Nat) : (xs.take m).flatten.length ≤ xs.flatten.length := by
 conv => rhs; rw [← List.take_append_drop m xs, List.flatten_append, List.length_append]
 omega
theorem Wi3 {K : Nat} {a0 : List (List Int)} {r : List Int} (q0 : Zh3 K a0 = some r) {H : FH} {w : World} {L : OL} {s0 : Value} (hs0 : Y3 (X2 (Y5 .i64)) H s0 a0) (hS : St H w L) :
 Calls prog 193 #[s0] w (Yf9 (Y5 .i64) 2 r H L) := by
 unfold Zh3 at q0
 by_cases hlen : a0.flatten.length ≤ 1099511627776
 case neg => rw [if_neg hlen] at q0; cases q0
 rw [if_pos hlen] at q0
 obtain rfl := oi q0
 have hb0 := hs0.bound
 refine X0 func193 rfl ntmps193 rfl ?_
 repeat refine Z1 ?_
 refine Z0 (Z5 (vN) rfl rfl (Z2 ?_))
 repeat refine Z1 ?_
 refine Z0 (Z5 (vI 0) rfl rfl (Z2 ?_))
 repeat refine Z1 ?_
 refine Z0 (Z3 s0 rfl rfl ?_)
 refine X9 T2 rfl hs0 rfl (Z3 (vI 0) rfl rfl (Z2 (Y8 ?_)))
 refine W0 (id := 0) (fun k f w => ∃ m : Nat, m ≤ a0.length ∧ a0.length < m + k ∧ St H w L ∧ tv f 0 = s0 ∧ tv f 3 = vI ((a0.take m).flatten.length : Int) ∧ tv f 9 = s0 ∧ tv f 10 = vI (a0.length : Int) ∧ tv f 11 = vI (m : Int))
  (fun f w => St H w L ∧ tv f 0 = s0 ∧ tv f 3 = vI (a0.flatten.length : Int)) rfl ?_ ?_ (a0.length + 1) ?_ ?_
 rintro f w ⟨m, h1, h2, _⟩; omega
 rintro k f w ih hx ⟨m, h1, h2, hS, t0, t3, t9, t10, t11⟩
 repeat refine Z1 ?_
 refine Z0 ?_
 refine W8 (k := .i64) (a := m) (b := a0.length) (by exact t11) (by exact t10) rfl (Z2 ?_)
 repeat refine Z1 ?_
 by_cases hm : (m : Int) < (a0.length : Int)
 have hm' : m < a0.length := by omega
 refine Z8 (bT hm rfl) (Y6 ?_)
 repeat refine Z1 ?_
 refine Y8 ?_
 repeat refine Z1 ?_
 refine Z0 ?_
 obtain ⟨b, o, cs, E, _, hp, hb, ⟨u, rfl, hu⟩, hc⟩ := hs0.elem (i := (m : Int)) (by omega) hm
 refine X5 T2 rfl (by exact t9) hp (by exact t11) (by omega) hm rfl ?_
 refine Y0 u P4 rfl (hS.froz _ _ hb) (hc 0 (show 0 < 1 by decide)) rfl (Z5 u rfl rfl (Z2 ?_))
 rw [Zu2 hm', Q8 hm'] at hu
 have hle := Wa6 a0 (m + 1)
 have hst := Xn6 a0 hm'
 have hlst : (a0.take (m + 1)).flatten.length = (a0.take m).flatten.length + a0[m].length := by rw [hst, List.length_append]
 repeat refine Z1 ?_
 refine Z0 (Z3 (vI ((a0.take m).flatten.length : Int)) (by exact t3) rfl (Z3 u rfl rfl ?_))
 refine X9 U5 rfl hu rfl ?_
 refine W2 ((a0.take (m + 1)).flatten.length : Int) rfl rfl (by rw [hlst, Int.natCast_add]; exact IntWalk.i64_in _ (by omega)) rfl ?_
 refine Z5 _ rfl rfl (Z2 ?_)
 repeat refine Z1 ?_
 refine Z0 (Z3 _ rfl rfl ?_)
 refine W8 (k := .i64) (a := ((a0.take (m + 1)).flatten.length : Int)) (b := 0) rfl rfl rfl (Z2 ?_)
 repeat refine Z1 ?_
 refine Z7 (bF (by omega) rfl) (Y6 ?_)
 refine X1 (Z0 ?_)
 refine W2 ((m : Int) + 1) (by exact t11) rfl (IntWalk.i64_in _ (by omega)) rfl (Z3 (vI ((m : Int) + 1)) rfl rfl (Z2 ?_))
 exact ih _ _ ⟨m + 1, by omega, by omega, hS, t0, rfl, t9, t10, by show vI ((m : Int) + 1) = vI ((m + 1 : Nat) : Int); rw [Int.natCast_add]; rfl⟩
 refine Z7 (bF hm rfl) (X7 rfl ?_)
 have e : m = a0.length := by omega
 subst e
 rw [List.take_length] at t3
 exact hx _ _ ⟨hS, t0, t3⟩
 exact ⟨0, by omega, by omega, hS, rfl, rfl, rfl, rfl, rfl⟩
 rintro f w ⟨hS, t0, t3⟩
 repeat refine Z1 ?_
 refine Z0 (Z3 _ (by exact t3) rfl ?_)
 refine U9 call256 (V2 rfl rfl) rfl (Wq0 (τ := Y5 .i64) rfl hlen hS) ?_
 rintro e1 w1 ⟨v, H1, C, rfl, Z4, hS, ho⟩
 refine ⟨_, rfl, ?_⟩
 have hs0 := hs0.mono Z4
 refine Z5 v rfl rfl (Z2 ?_)
 repeat refine Z1 ?_
 refine Z0 (Z3 s0 (by exact t0) rfl ?_)
 refine X9 T2 rfl hs0 rfl (Z3 (vI 0) rfl rfl (Z2 (Y8 ?_)))
 refine W0 (id := 2) (fun k f w => ∃ (m : Nat) (v : Value) (C : OL), m ≤ a0.length ∧ a0.length < m + k ∧ St H1 w (C ++ L) ∧ X8 (Y5 .i64) 2 H1 v (a0.take m).flatten C ∧ tv f 6 = v ∧ tv f 25 = s0 ∧ tv f 26 = vI (a0.length : Int) ∧ tv f 27 = vI (m : Int))
  (fun f w => ∃ (v : Value) (C : OL), St H1 w (C ++ L) ∧ X8 (Y5 .i64) 2 H1 v a0.flatten C ∧ tv f 6 = v) rfl ?_ ?_ (a0.length + 1) ?_ ?_
 rintro f w ⟨m, v, C, h1, h2, _⟩; omega
 rintro k f w ih hx ⟨m, v, C, h1, h2, hS, ho, t6, t25, t26, t27⟩
 repeat refine Z1 ?_
 refine Z0 ?_
 refine W8 (k := .i64) (a := m) (b := a0.length) (by exact t27) (by exact t26) rfl (Z2 ?_)
 repeat refine Z1 ?_
 by_cases hm : (m : Int) < (a0.length : Int)
 have hm' : m < a0.length := by omega
 refine Z8 (bT hm rfl) (Y6 ?_)
 repeat refine Z1 ?_
 refine Y8 ?_
 repeat refine Z1 ?_
 refine Z0 ?_
 obtain ⟨b, o, cs, E, _, hp, hb, ⟨u, rfl, hu⟩, hc⟩ := hs0.elem (i := (m : Int)) (by omega) hm
 refine X5 T2 rfl (by exact t25) hp (by exact t27) (by omega) hm rfl ?_
 refine Y0 u P4 rfl (hS.froz _ _ hb) (hc 0 (show 0 < 1 by decide)) rfl (Z5 u rfl rfl (Z2 ?_))
 rw [Zu2 hm', Q8 hm'] at hu
 have hle := Wa6 a0 (m + 1)
 have hst := Xn6 a0 hm'
 rw [hst, List.length_append] at hle
 repeat refine Z1 ?_
 refine Z0 (Z3 v (by exact t6) rfl (Z3 u rfl rfl ?_))
 refine N6 (τ := Y5 .i64) Yb7 rfl rfl rfl ho hS hu (by omega) rfl ?_
 intro v4 w4 C4 ho hS
 rw [← hst] at ho
 refine Z5 v4 rfl rfl (Z2 (X1 (Z0 ?_)))
 refine W2 ((m : Int) + 1) (by exact t27) rfl (IntWalk.i64_in _ (by omega)) rfl (Z3 (vI ((m : Int) + 1)) rfl rfl (Z2 ?_))
 exact ih _ _ ⟨m + 1, v4, C4, by omega, by omega, hS, ho, rfl, t25, t26, by show vI ((m : Int) + 1) = vI ((m + 1 : Nat) : Int); rw [Int.natCast_add]; rfl⟩
 refine Z7 (bF hm rfl) (X7 rfl ?_)
 have e : m = a0.length := by omega
 subst e
 rw [List.take_length] at ho
 exact hx _ _ ⟨v, C, hS, ho, t6⟩
 exact ⟨0, v, C, by omega, by omega, hS, ho, rfl, rfl, rfl, rfl⟩
 rintro f w ⟨v, C, hS, ho, t6⟩
 repeat refine Z1 ?_
 refine Z0 (Z3 v (by exact t6) rfl (Z5 v rfl rfl (Z2 ?_)))
 exact Y9 (vs := [v]) func193 ⟨rfl, trivial⟩ ⟨_, _, _, rfl, Z4, hS, ho⟩
end Go.Proofs.YtabofnehiclkiaaGreat
