/- Walk, rules and plain laws. -/
import Derived.Laws.MakeOwn
import Derived.ChangeKeysEq
import Derived.Laws.StructEq
import Derived.Test.YtabofnehiclkiaaGreatRS1
namespace Go.Proofs.YtabofnehiclkiaaGreat
open Go IntKind IntWalk List
set_option linter.all false
set_option maxRecDepth 100000
set_option maxHeartbeats 8000000
theorem gd {α : Type} {c : Prop} [Decidable c] {o : Option α} {r : α} (h : (if c then o else none) = some r) : c ∧ o = some r := by
 by_cases hc : c
 rw [if_pos hc] at h; exact ⟨hc, h⟩
 rw [if_neg hc] at h; cases h
theorem bSm {α β : Type} {o : Option α} {g : α → Option β} {r : β} (h : o.bind g = some r) : ∃ a, o = some a ∧ g a = some r := by
 cases o with
 | none => cases h
 | some a => exact ⟨a, U, h⟩
def Ex.elim {ρ σ β : Type} (a : ρ → β) (b : σ → β) : Ex ρ σ → β
 | .ret r => a r
 | .go s => b s
theorem W3 {P : Program} {n : Nat} {g : FuncId} {R : Ending → World → Prop} {body : Code} {K' Kx : List Item} {id : Nat} {f : Fr} {w : World}
 (I : Nat → Fr → World → Prop) (E : Fr → World → Prop) (he : exitTo id K' = some Kx) (h0 : ∀ f w, I 0 f w → False)
 (hs : ∀ k f w, (∀ f' w', I k f' w' → Run P n g R (.inLoop body :: K') f' w') → (∀ f' w', E f' w' → Run P n g R Kx f' w') → I (k + 1) f w → Run P n g R (.code body :: .inLoop body :: K') f w)
 (k : Nat) (h : I k f w) (hx : ∀ f w, E f w → Run P n g R Kx f w) : Run P n g R (.code (.loop body) :: K') f w := by
 have key : ∀ k f w, I k f w → Run P n g R (.code body :: .inLoop body :: K') f w := by
  intro k
  induction k with
  | zero => intro f w h; exact (h0 f w h).elim
  | succ k ih => intro f w h; exact hs k f w (fun f' w' h' => Wk1 (ih f' w' h')) hx h
 exact Wx8 (key k f w h)
theorem Xu3 {s : Nat} : ∀ (vs : List Value) (k : Nat) (Z : Array Value), Z.size = (k + vs.length) * s → (∀ v, v ∈ vs → v.cells.size = s) →
 Instr.fill (fun i => some (i * s, s)) Z ((vs.zipIdx k).map fun p => (p.2, p.1)) = some (Z.toList.take (k * s) ++ vs.flatMap fun v => v.cells.toList).toArray
 | [], k, Z, hZ, _ => by
  simp only [zipIdx_nil, map_nil, Instr.fill, flatMap_nil, append_nil]
  rw [take_of_length_le (by simp [hZ])]
 | v :: vs, k, Z, hZ, hv => by
  have hvs := hv v (mem_cons_self ..)
  have hfold : ∀ (cs : List Value) (j : Nat) (A : Array Value), (cs.zipIdx j).foldl (fun A (p : Value × Nat) => A.setIfInBounds (k * s + p.2) p.1) A = B6 A (k * s + j) cs := by
   intro cs
   induction cs with
   | nil => intro j A; rfl
   | cons c cs ih => intro j A; rw [zipIdx_cons, foldl_cons, ih]; rfl
  have hZ' : Z.size = k * s + (1 + vs.length) * s := by rw [hZ, length_cons, ← Nat.add_mul]; congr 1; omega
  have hZ'' : Z.size = k * s + s + vs.length * s := by rw [hZ', Nat.add_mul]; omega
  rw [zipIdx_cons, map_cons]
  simp only [Instr.fill]
  rw [if_neg (by simp [hvs]; omega)]
  have h1 : v.cells.zipIdx.foldl (fun cs (x : Value × Nat) => cs.setIfInBounds (k * s + x.2) x.1) Z = B6 Z (k * s) v.cells.toList := by
   have := hfold v.cells.toList 0 Z
   rw [Nat.add_zero] at this
   rw [← this, ← Array.foldl_toList, Array.toList_zipIdx]
  rw [h1, Xu3 vs (k + 1) (B6 Z (k * s) v.cells.toList) (by rw [Yb9, hZ, length_cons]; congr 1; omega) (fun u hu => hv u (mem_cons_of_mem _ hu))]
  congr 2
  rw [flatMap_cons, ← append_assoc]
  congr 1
  apply ext_getElem?
  intro i
  have hlen : k * s + v.cells.toList.length ≤ Z.size := by simp [hvs]; omega
  have e1 : (k + 1) * s = k * s + s := by rw [Nat.add_mul]; omega
  rw [getElem?_take, Array.getElem?_toList, Zz8 _ _ _ _ hlen, e1]
  simp only [Array.length_toList, hvs]
  have htl : (Z.toList.take (k * s)).length = k * s := by rw [length_take, Array.length_toList]; omega
  by_cases h2 : i < k * s
  rw [if_pos (by omega), if_neg (by omega), getElem?_append_left (by omega), getElem?_take, if_pos h2, Array.getElem?_toList]
  rw [getElem?_append_right (by omega), htl]
  by_cases h3 : i < k * s + s
  rw [if_pos h3, if_pos (by omega)]
  rw [if_neg h3, getElem?_eq_none]; simp [hvs]; omega
structure ZeI (P : Program) (E : TypeId) (s : Nat) (z : Value) : Prop where
 zero : ∀ w, (zeroValue E).run P w = .ok z w
 sizeOf : ∀ w, (Go.sizeOf E).run P w = .ok s w
 zs : z.cells.size = s
section
variable {P : Program} {n : Nat} {ops : Array Oper} {J : Fr → World → Prop} {r : List Oper} {f : Fr} {w : World} {d : Nat} {T : TypeId} {pos : String} {af : Array Edge} {H : FH} {L C : OL}
variable {α : Type} {τ : Ty α}
theorem Zu4 {X E : TypeId} {s m : Nat} {z : Value} (t : SlI P X E s) (tz : ZeI P E s z) (vs : List Value) (hm : vs.length = m) (hv : ∀ v, v ∈ vs → v.cells.size = s) (hbig : m * s ≤ 16777216) :
 (Instr.buildSlice X m ((vs.zipIdx.map fun p => (p.2, p.1)).toArray)).run P w =
  .ok (.slice (some ⟨w.heap.size, 0, none⟩) m m) (w.alloc (.cells (vs.flatMap fun v => v.cells.toList).toArray E)) := by
 subst hm
 have hf := Xu3 (s := s) vs 0
 simp only [Nat.zero_add, Nat.zero_mul, take_zero, nil_append] at hf
 have hlim : ¬ (vs.length * s > 2 ^ 24) := by simp only [Nat.reducePow]; omega
 by_cases h0 : vs.length * s = 0
 simp [Instr.buildSlice, t.under, t.sizeOf, h0]
 rw [hf _ (by simp [h0]) hv]
 simp [newRow]
 have hlim' : ¬ (16777216 < vs.length * s) := by omega
 simp [Instr.buildSlice, t.under, t.sizeOf, h0, hlim', tz.zero]
 rw [hf _ (by simp) hv]
 simp [newRow]
theorem Zc4 {X E : TypeId} {s m : Nat} {z : Value} {ps : Array (Nat × Operand)} (t : SlI P X E s) (tz : ZeI P E s z) (hs : τ.size = s) (vs : List Value) (xs : List α) (hm : vs.length = m) (hx : xs.length = m)
 (hps : ps.map (fun p => (p.1, ev f p.2)) = (vs.zipIdx.map fun p => (p.2, p.1)).toArray)
 (hrel : ∀ (i : Nat) (x : α), xs[i]? = some x → ∃ v : Value, vs[i]? = some v ∧ τ.rel H v.cells.toList x) (hbig : m * s ≤ 16777216) (hbig2 : m ≤ 9223372036854775807) (hS : St H w L) (hn : Nat.blt d n = true)
 (K : ∀ u H' w', Sub H H' → St H' w' L → Y3 τ H' u xs → X7 P n ops J r (upd f d u) w') : X7 P n ops J (⟨some d, .buildSlice X m ps, T, pos, af, none⟩ :: r) f w := by
 subst hs
 have hv : ∀ v, v ∈ vs → v.cells.size = τ.size := by
  intro v hv
  obtain ⟨i, hi⟩ := mem_iff_getElem?.1 hv
  have hlt : i < xs.length := by rw [hx, ← hm]; exact (List.getElem?_eq_some_iff.1 hi).1
  obtain ⟨u, hu, hr⟩ := hrel i xs[i] (by simp [hlt])
  rw [hi] at hu; cases hu
  have := τ.len hr
  simpa using this
 have hrun := Zu4 (P := P) (w := w) t tz vs hm hv hbig
 rw [← hps] at hrun
 have hS' := hS.alloc (.cells (vs.flatMap fun v => v.cells.toList).toArray E)
 have Z4 := Sub.add (o := .cells (vs.flatMap fun v => v.cells.toList).toArray E) hS'.none
 refine U2 U U hn (by simp only [execOp]; exact F4 hrun) (K _ _ _ Z4 hS'.freeze ?_)
 refine ⟨some ⟨w.heap.size, 0, none⟩, m, ⟨by rw [hx], by rw [hx]; exact ⟨hbig2, Nat.le_refl _⟩⟩, .inr ⟨w.heap.size, 0, (vs.flatMap fun v => v.cells.toList).toArray, (E, 0, 0), U, FH.add_self .., ?_⟩⟩
 have hflat : ∀ (vs : List Value), (∀ v, v ∈ vs → v.cells.size = τ.size) → ∀ i v, vs[i]? = some v → ∀ j, j < τ.size → (vs.flatMap fun v => v.cells.toList)[i * τ.size + j]? = v.cells.toList[j]? := by
  intro vs
  induction vs with
  | nil => intro _ i v h; simp at h
  | cons a vs ih =>
   intro hv i v h j hj
   have ha := hv a (mem_cons_self ..)
   rw [flatMap_cons]
   cases i with
   | zero => simp at h; subst h; rw [Nat.zero_mul, Nat.zero_add, getElem?_append_left (by simp [ha, hj])]
   | succ i =>
    have e1 : (i + 1) * τ.size = i * τ.size + τ.size := by rw [Nat.add_mul]; omega
    rw [getElem?_append_right (by simp [ha]; omega)]
    have := ih (fun u hu => hv u (mem_cons_of_mem _ hu)) i v (by simpa using h) j hj
    rw [← this]; congr 1; simp [ha]; omega
 intro i x hi
 obtain ⟨v, hv', hr⟩ := hrel i x hi
 refine ⟨_, τ.mono Z4 hr, fun j hj => ?_⟩
 rw [Nat.zero_add, getElem?_toArray]
 exact hflat vs hv i v hv' j hj
theorem Ye7 {X E : TypeId} {s : Nat} {z : Value} (t : SlI P X E s) (tz : ZeI P E s z) (hs : τ.size = s) (hS : St H w L) (hn : Nat.blt d n = true)
 (K : ∀ u w' C', W0 τ E H u [] C' → St H w' (C' ++ L) → X7 P n ops J r (upd f d u) w') : X7 P n ops J (⟨some d, .buildSlice X 0 #[], T, pos, af, none⟩ :: r) f w := by
 have hrun := Zu4 (P := P) (w := w) t tz [] U (by simp) (by simp)
 refine U2 (v := .slice (some ⟨w.heap.size, 0, none⟩) 0 0) (w' := w.alloc (.cells #[] E)) U U hn (by have h := hrun; simp only [execOp]; exact F4 (by simpa using h)) (K _ _ [(w.heap.size, .cells #[] E)] ?_ (hS.alloc _))
 exact .inr ⟨w.heap.size, 0, #[], U, by simp, by simp [maxLen], by simp, U, by simp⟩
theorem N2 {X E : TypeId} {s bytes : Nat} {z : Value} {x y : Operand} {v u : Value} {xs ys : List α} (t : ApI P X E s bytes z) (hs : τ.size = s) (hx : ev f x = v) (hy : ev f y = u)
 (ho : W0 τ E H v xs C) (hS : St H w (C ++ L)) (hu : Y3 τ H u ys) (hb : xs.length + ys.length ≤ 1099511627776) (hn : Nat.blt d n = true)
 (K : ∀ v' w' C', W0 τ E H v' (xs ++ ys) C' → St H w' (C' ++ L) → X7 P n ops J r (upd f d v') w') :
 X7 P n ops J (⟨some d, .call ⟨.builtin .append, #[x, y], #[X, X]⟩, T, pos, af, none⟩ :: r) f w := by
 obtain ⟨v', w', C', hr, ho', hS'⟩ := Xs4 (ty := T) t hs ho hS hu hb
 refine U2 U U hn ?_ (K v' w' C' ho' hS')
 simp only [execOp, resolve, invoke, builtin, Sem.run_bind, Sem.run_pure, Result.andThen_ok, map_toArray, map_cons, map_nil, hx, hy, hr]
theorem Yh0 {X E E' : TypeId} {x : Operand} {v : Value} {s : Nat} {xs : List α} (t : SlI P X E s) (hx : ev f x = v) (h : W0 τ E' H v xs C) (hn : Nat.blt d n = true)
 (K : X7 P n ops J r (upd f d (.int .i64 xs.length)) w) : X7 P n ops J (⟨some d, .call ⟨.builtin .len, #[x], #[X]⟩, T, pos, af, none⟩ :: r) f w := by
 rcases h with ⟨rfl, rfl, _⟩ | ⟨b, c, cs, rfl, _⟩
 exact Zq3 t hx hn K
 exact Zq3 t hx hn K
theorem Wr4 {E : TypeId} {v : Value} {xs : List α} {b m c : Nat} (h : W0 τ E H v xs C) (hv : v = .slice (some ⟨b, 0, none⟩) m c) :
 ∃ cs, c * τ.size = cs.size ∧ xs.length ≤ c ∧ c ≤ maxLen ∧ m = xs.length ∧ C = [(b, .cells cs E)] ∧ ∀ i x, xs[i]? = some x → ∃ ecs, τ.rel H ecs x ∧ ∀ j, j < τ.size → cs[i * τ.size + j]? = ecs[j]? := by
 rcases h with ⟨rfl, rfl, _⟩ | ⟨b', c', cs, rfl, h1, h2, h3, h4, h5⟩
 cases hv
 cases hv; exact ⟨cs, h3.symm, h1, h2, rfl, h4, h5⟩
theorem Yz3 [Inhabited α] {E' X' T' : TypeId} {x : Operand} {v u : Value} {xs : List α} {i : Int} {b m c : Nat} {s sz : Nat} (hs : τ.size = s) (t : TyI P T' false sz) (hv : v = .slice (some ⟨b, 0, none⟩) m c) (ho : W0 τ E' H v xs C) (hS : St H w (C ++ L))
 (hx : ev f x = .pointer (some ⟨b, i.toNat * s, none⟩)) (h0 : 0 ≤ i) (hm : i < xs.length) (hrel : ∀ ecs, τ.rel H ecs (rd xs i) → ecs = [u]) (hn : Nat.blt d n = true)
 (K : X7 P n ops J r (upd f d u) w) : X7 P n ops J (⟨some d, .load T' x, X', pos, af, none⟩ :: r) f w := by
 subst hs
 obtain ⟨cs, h3, h1, h2, rfl, rfl, h5⟩ := Wr4 ho hv
 obtain ⟨ecs, hr, hj⟩ := h5 _ _ (Xm1 h0 hm)
 have he := hrel ecs hr
 subst he
 have hl := τ.len hr
 have hS' : St H w ((b, .cells cs E') :: L) := hS
 exact Y1 u t hx hS'.hd (by have := hj 0 (by rw [← hl]; simp); simpa using this) hn K
theorem Za9 {E' X' T' : TypeId} {x y : Operand} {v u : Value} {xs : List α} (e : α) {i : Int} {b m c s : Nat} {a : Bool} (hs : τ.size = s) (t : TyI P T' a s) (hv : v = .slice (some ⟨b, 0, none⟩) m c) (ho : W0 τ E' H v xs C) (hS : St H w (C ++ L))
 (hx : ev f x = .pointer (some ⟨b, i.toNat * s, none⟩)) (hy : ev f y = u) (h0 : 0 ≤ i) (hm : i < xs.length) (hrel : τ.rel H u.cells.toList e)
 (K : ∀ w' C', W0 τ E' H v (xs.set i.toNat e) C' → St H w' (C' ++ L) → X7 P n ops J r f w') : X7 P n ops J (⟨none, .store T' x y, X', pos, af, none⟩ :: r) f w := by
 subst hs
 obtain ⟨cs, h3, h1, h2, rfl, rfl, h5⟩ := Wr4 ho hv
 have hl := τ.len hrel
 have hi : i.toNat < xs.length := by omega
 have hfit : i.toNat * τ.size + u.cells.toList.length ≤ cs.size := by
  rw [hl, ← h3]
  calc i.toNat * τ.size + τ.size = (i.toNat + 1) * τ.size := by rw [Nat.add_mul]; omega
   _ ≤ c * τ.size := Nat.mul_le_mul_right _ (by omega)
 have hS' : St H w ((b, .cells cs E') :: L) := hS
 refine J7 t hx hy hS' (by simpa using hl) (τ.one hrel) (by rw [hl] at hfit; exact hfit) U (fun w' hw' => K w' [(b, .cells (B6 cs (i.toNat * τ.size) u.cells.toList) E')] ?_ hw')
 refine .inr ⟨b, c, _, by rw [hv, length_set], by rw [length_set]; exact h1, h2, by rw [Yb9, h3], U, ?_⟩
 intro k z hz
 by_cases hk : k = i.toNat
 subst hk
 rw [getElem?_set_self hi] at hz
 cases hz
 refine ⟨_, hrel, fun j hj => ?_⟩
 rw [Zz8 _ _ _ _ hfit, if_pos (by omega)]
 congr 1; omega
 rw [getElem?_set_ne (fun h => hk h.symm)] at hz
 obtain ⟨ecs, hr, hj⟩ := h5 k z hz
 refine ⟨ecs, hr, fun j hjs => ?_⟩
 rw [Zz8 _ _ _ _ hfit, if_neg, hj j hjs]
 rw [hl]
 rintro ⟨ha, hb⟩
 rcases Nat.lt_or_ge k i.toNat with h | h
 have : (k + 1) * τ.size ≤ i.toNat * τ.size := Nat.mul_le_mul_right _ h
 rw [Nat.add_mul] at this; omega
 have : (i.toNat + 1) * τ.size ≤ k * τ.size := Nat.mul_le_mul_right _ (by omega)
 rw [Nat.add_mul] at this; omega
theorem Zz4 {X E T' : TypeId} {s bytes : Nat} {z : Value} {x y : Operand} {k k' : IntKind} {m : Int} (x0 : α) (t : ApI P X E s bytes z) (hs : τ.size = s) (hx : ev f x = .int k m) (hy : ev f y = .int k' m) (hz : ∀ H, τ.rel H z.cells.toList x0)
 (h0 : 0 ≤ m) (hb : m ≤ 1099511627776) (hS : St H w L) (hn : Nat.blt d n = true)
 (K : ∀ v w' C', W0 τ E H v (replicate m.toNat x0) C' → St H w' (C' ++ L) → X7 P n ops J r (upd f d v) w') : X7 P n ops J (⟨some d, .makeSlice X x y, T', pos, af, none⟩ :: r) f w := by
 subst hs
 obtain ⟨info, hi, hz0, hsz, hby⟩ := t.info
 have hsmall := t.small
 have hw : i64.wrap m = m := i64_in m (by omega)
 have hbm : (bytes : Int) * m ≤ 281474976710656 := by
  calc (bytes : Int) * m ≤ 128 * m := Int.mul_le_mul_of_nonneg_right (by omega) h0
   _ ≤ 128 * 1099511627776 := Int.mul_le_mul_of_nonneg_left hb (by omega)
   _ ≤ 281474976710656 := by decide
 have hrun : ∃ cs : Array Value, cs = (Array.range (m.toNat * τ.size)).map (fun i => z.cells[i % z.cells.size]!) ∧ (Instr.makeSlice X (.int k m) (.int k' m)).run P w = .ok (.slice (some ⟨w.heap.size, 0, none⟩) m.toNat m.toNat) (w.alloc (.cells cs E)) := by
  refine ⟨_, U, ?_⟩
  have h1 : ¬ (m < 0) := by omega
  have h2 : ¬ ((2:Int) ^ 48 < (info.bytes : Int) * m) := by rw [hby]; simp; omega
  by_cases hm0 : m.toNat * τ.size = 0
  simp [Instr.makeSlice, run_underlying t.under, typeInfo, sizeOf, hi, asInt, asIntOf, hw, h1, h2, hsz, hm0, newRow]
  have : ¬ (281474976710656 < (info.bytes : Int) * m) := by rw [hby]; omega
  simp [this]
  congr 2
  exact Array.ext (by simp) (by intro i h; simp at h)
  have : ¬ (281474976710656 < (info.bytes : Int) * m) := by rw [hby]; omega
  simp [Instr.makeSlice, run_underlying t.under, typeInfo, sizeOf, hi, asInt, asIntOf, hw, h1, this, hsz, newRow, zeroValue, hz0]
  intro h; exact absurd h hm0
 obtain ⟨cs, hcs, hrun⟩ := hrun
 refine U2 U U hn (by simp only [execOp, hx, hy]; exact F4 hrun) (K _ _ [(w.heap.size, .cells cs E)] ?_ (hS.alloc _))
 refine .inr ⟨w.heap.size, m.toNat, cs, by rw [length_replicate], by rw [length_replicate]; omega, by simp only [maxLen]; omega, by rw [hcs]; simp, U, ?_⟩
 intro i y hy
 have hlt : i < m.toNat := by have := (List.getElem?_eq_some_iff.1 hy).1; simpa using this
 have hyx : y = x0 := by rw [getElem?_replicate, if_pos hlt] at hy; exact (Option.some.inj hy).symm
 subst hyx
 refine ⟨_, hz H, fun j hj => ?_⟩
 have hidx : i * τ.size + j < m.toNat * τ.size := by
  calc i * τ.size + j < i * τ.size + τ.size := by omega
   _ = (i + 1) * τ.size := by rw [Nat.add_mul]; omega
   _ ≤ m.toNat * τ.size := Nat.mul_le_mul_right _ hlt
 have hzs := t.zs
 rw [hcs, Array.getElem?_map, Array.getElem?_range, if_pos hidx, Option.map_some, hzs]
 have : (i * τ.size + j) % τ.size = j := by rw [Nat.add_comm, Nat.add_mul_mod_self_right, Nat.mod_eq_of_lt hj]
 rw [this]
 have hjz : j < z.cells.size := by omega
 simp [hjz]
end
/-! bringing a chunk to the front and back -/
section
variable {H : FH} {w : World} {L A1 A2 A3 A4 A5 A6 A7 A8' B : OL}
theorem R5 : (B ++ (A1 ++ L)).Perm (A1 ++ (B ++ L)) := by
 rw [← append_assoc, ← append_assoc]; exact perm_append_comm.append_right L
theorem Zc0 : (B ++ (A1 ++ (A2 ++ L))).Perm (A1 ++ (A2 ++ (B ++ L))) := R5.trans (R5.append_left A1)
theorem Xl1 : (B ++ (A1 ++ (A2 ++ (A3 ++ L)))).Perm (A1 ++ (A2 ++ (A3 ++ (B ++ L)))) := R5.trans (Zc0.append_left A1)
theorem Wi9 : (B ++ (A1 ++ (A2 ++ (A3 ++ (A4 ++ L))))).Perm (A1 ++ (A2 ++ (A3 ++ (A4 ++ (B ++ L))))) := R5.trans (Xl1.append_left A1)
theorem Xh8 : (B ++ (A1 ++ (A2 ++ (A3 ++ (A4 ++ (A5 ++ L)))))).Perm (A1 ++ (A2 ++ (A3 ++ (A4 ++ (A5 ++ (B ++ L)))))) := R5.trans (Wi9.append_left A1)
theorem Wy5 : (B ++ (A1 ++ (A2 ++ (A3 ++ (A4 ++ (A5 ++ (A6 ++ L))))))).Perm (A1 ++ (A2 ++ (A3 ++ (A4 ++ (A5 ++ (A6 ++ (B ++ L))))))) := R5.trans (Xh8.append_left A1)
end
section
variable {f : Fr} {x1 x2 x3 x4 x5 x6 x7 x8 : Operand} {v1 v2 v3 v4 v5 v6 v7 v8 : Value}
theorem S4 (h1 : ev f x1 = v1) : #[x1].map (ev f) = #[v1] := by simp [h1]
theorem W8 (h1 : ev f x1 = v1) (h2 : ev f x2 = v2) : #[x1, x2].map (ev f) = #[v1, v2] := by simp [h1, h2]
theorem I3 (h1 : ev f x1 = v1) (h2 : ev f x2 = v2) (h3 : ev f x3 = v3) : #[x1, x2, x3].map (ev f) = #[v1, v2, v3] := by simp [h1, h2, h3]
theorem Wy3 (h1 : ev f x1 = v1) (h2 : ev f x2 = v2) (h3 : ev f x3 = v3) (h4 : ev f x4 = v4) : #[x1, x2, x3, x4].map (ev f) = #[v1, v2, v3, v4] := by simp [h1, h2, h3, h4]
theorem Wz0 (h1 : ev f x1 = v1) (h2 : ev f x2 = v2) (h3 : ev f x3 = v3) (h4 : ev f x4 = v4) (h5 : ev f x5 = v5) : #[x1, x2, x3, x4, x5].map (ev f) = #[v1, v2, v3, v4, v5] := by simp [h1, h2, h3, h4, h5]
end
section
variable {P : Program} {w : World} {T : TypeId}
theorem T9 {s b : Nat} {E : TypeId} {cs : Array Value} {fz : Nat × Nat} (t : TyI P T true s) (hb : w.heap[b]? = some (.cells cs E fz)) (hl : cs.size = s) :
 (loadVar T ⟨b, 0, none⟩).run P w = .ok (.agg cs) w := by
 have := Xc9 (P := P) (T := T) (off := 0) cs.toList t hb (by simpa using hl) (fun j _ => by simp)
 simpa using this
end
theorem Zn7 (A B C : List Value) : ∀ j, j < B.length → (A ++ (B ++ C)).toArray[0 + A.length + j]? = B[j]? := by
 intro j hj
 rw [getElem?_toArray, Nat.zero_add, getElem?_append_right (by omega), Nat.add_sub_cancel_left, getElem?_append_left hj]
def T3 (m : A8) (i x : Int) : A8 := fun j => if (j.val : Int) = i then x else m j
theorem Zj0 {k : IntKind} {m : A8} {i x : Int} (h0 : 0 ≤ i) (h8 : i < 8) : B6 (Z7 k m).toArray (0 + i.toNat * 1) [.int k x] = (Z7 k (T3 m i x)).toArray := by
 obtain ⟨j, rfl⟩ := Int.eq_ofNat_of_zero_le h0
 have : j < 8 := by omega
 match j, this with
 | 0, _ | 1, _ | 2, _ | 3, _ | 4, _ | 5, _ | 6, _ | 7, _ => rfl
structure Zr7 (α : Type) where
 p : FH → Value → α → Prop
 mono : ∀ {H H' : FH} {v : Value} {x : α}, Sub H H' → p H v x → p H' v x
namespace R
def int (k : IntKind) : Zr7 Int := ⟨fun _ v x => v = .int k x, fun _ h => h⟩
def bool : Zr7 Bool := ⟨fun _ v x => v = .bool x, fun _ h => h⟩
def Vm6 : Zr7 Unit := ⟨fun _ v _ => v = .tuple #[], fun _ h => h⟩
def agg {α : Type} (τ : Ty α) : Zr7 α := ⟨fun H v x => ∃ cs, v = .agg cs.toArray ∧ τ.rel H cs x, fun hs h => by obtain ⟨cs, h1, hr⟩ := h; exact ⟨cs, h1, τ.mono hs hr⟩⟩
def sl {α : Type} (τ : Ty α) : Zr7 (List α) := ⟨fun H v x => Y3 τ H v x, fun hs h => h.mono hs⟩
def t2 {α β : Type} (ρ : Zr7 α) (σ : Zr7 β) : Zr7 (α × β) :=
 ⟨fun H v x => ∃ v1 v2, v = .tuple #[v1, v2] ∧ ρ.p H v1 x.1 ∧ σ.p H v2 x.2, fun hs ⟨a, b, h, h1, h2⟩ => ⟨a, b, h, ρ.mono hs h1, σ.mono hs h2⟩⟩
def t3 {α β γ : Type} (ρ : Zr7 α) (σ : Zr7 β) (θ : Zr7 γ) : Zr7 (α × β × γ) :=
 ⟨fun H v x => ∃ v1 v2 v3, v = .tuple #[v1, v2, v3] ∧ ρ.p H v1 x.1 ∧ σ.p H v2 x.2.1 ∧ θ.p H v3 x.2.2,
  fun hs ⟨a, b, c, h, h1, h2, h3⟩ => ⟨a, b, c, h, ρ.mono hs h1, σ.mono hs h2, θ.mono hs h3⟩⟩
end R
def MP.rep {α : Type} (ρ : Zr7 α) (x : α) : MP := ⟨fun H v => ρ.p H v x, fun hs h => ρ.mono hs h, fun _ => []⟩
def S8 : List (Nat × MP) → Nat → MP
 | [], _ => MP.any
 | (d, m) :: r, t => bif Nat.beq t d then m else S8 r t
section
variable {α : Type} {τ : Ty α} {H : FH} {v : Value} {xs : List α} {C : OL} {E : TypeId}
theorem Y3.nil : Y3 τ H (.slice none 0 0) ([] : List α) := ⟨none, 0, ⟨U, by simp⟩, .inl U⟩
theorem Y3.cellsL (h : Y3 τ H v xs) : v.cells.toList = [v] := by obtain ⟨a, c, ⟨rfl, _⟩, _⟩ := h; rfl
theorem Y3.isOne (h : Y3 τ H v xs) : v.oneCell' = true := by obtain ⟨a, c, ⟨rfl, _⟩, _⟩ := h; rfl
theorem Y3.relv (h : Y3 τ H v xs) : (X3 τ).rel H v.cells.toList xs := ⟨v, h.cellsL, h⟩
theorem W0.cellsL (h : W0 τ E H v xs C) : v.cells.toList = [v] := by rcases h with ⟨rfl, _⟩ | ⟨b, c, cs, rfl, _⟩ <;> rfl
theorem W0.isOne (h : W0 τ E H v xs C) : v.oneCell' = true := by rcases h with ⟨rfl, _⟩ | ⟨b, c, cs, rfl, _⟩ <;> rfl
theorem W0.bound (h : W0 τ E H v xs C) : xs.length ≤ 9223372036854775807 := by
 rcases h with ⟨_, rfl, _⟩ | ⟨b, c, cs, _, h1, h2, _⟩
 simp
 simp only [maxLen] at h2; omega
theorem W0.some {i : Int} (h : W0 τ E H v xs C) (h0 : 0 ≤ i) (hm : i < xs.length) : ∃ b c, v = .slice (some ⟨b, 0, none⟩) xs.length c := by
 rcases h with ⟨_, rfl, _⟩ | ⟨b, c, cs, hv, _⟩
 simp at hm; omega
 exact ⟨b, c, hv⟩
theorem Y3.elem [Inhabited α] {i : Int} (h : Y3 τ H v xs) (h0 : 0 ≤ i) (hm : i < xs.length) :
 ∃ (b o : Nat) (cs : Array Value) (E' : TypeId × Nat × Nat) (ecs : List Value), (∃ a c, v = .slice (Option.some ⟨b, a, none⟩) xs.length c ∧ o = a + i.toNat * τ.size) ∧ H b = Option.some (.cells cs E'.1 E'.2) ∧ τ.rel H ecs (rd xs i) ∧ ∀ j, j < τ.size → cs[o + j]? = ecs[j]? := by
 obtain ⟨a, c, ⟨hv, _⟩, h⟩ := h
 rcases h with rfl | ⟨b, o, cs, E', rfl, hb, hc⟩
 simp at hm; omega
 obtain ⟨ecs, hr, hj⟩ := hc _ _ (Xm1 h0 hm)
 exact ⟨b, _, cs, E', ecs, ⟨o, c, hv, U⟩, hb, hr, hj⟩
end
theorem Zv6 {v : Value} (h : v.oneCell' = true) : ∀ u, u ∈ v.cells.toList → u.oneCell' = true := by
 intro u hu; rw [Xq8 h] at hu; simp at hu; subst hu; exact h
theorem K9 {v : Value} (h : v.oneCell' = true) : ∀ u, u ∈ [v] → u.oneCell' = true := by
 intro u hu; simp at hu; subst hu; exact h
theorem Yg4 {A B : List Value} (h : ∀ u, u ∈ A → u.oneCell' = true) (h' : ∀ u, u ∈ B → u.oneCell' = true) : ∀ u, u ∈ A ++ B → u.oneCell' = true :=
 fun u hu => (mem_append.1 hu).elim (h u) (h' u)
section
variable {P : Program} {n : Nat} {ops : Array Oper} {J : Fr → World → Prop} {r : List Oper} {f : Fr} {w : World} {d : Nat} {T : TypeId} {pos : String} {af : Array Edge} {H : FH} {L C : OL}
variable {α : Type} {τ : Ty α}
theorem X6 {X E : TypeId} {x y : Operand} {v : Value} {s m b o : Nat} {i : Int} {k : IntKind} (t : SlI P X E s) (hs : τ.size = s) (hx : ev f x = v) (hp : ∃ a c, v = .slice (some ⟨b, a, none⟩) m c ∧ o = a + i.toNat * τ.size)
 (hy : ev f y = .int k i) (h0 : 0 ≤ i) (hm : i < m) (hn : Nat.blt d n = true) (K : X7 P n ops J r (upd f d (.pointer (some ⟨b, o, none⟩))) w) :
 X7 P n ops J (⟨some d, .indexAddr X x y, T, pos, af, none⟩ :: r) f w := by
 obtain ⟨a, c, hv, rfl⟩ := hp
 subst hs
 exact Zh9 t (hx.trans hv) hy h0 hm hn K
theorem Q3 {X E : TypeId} {x y : Operand} {b m c s : Nat} {i : Int} {k : IntKind} (t : SlI P X E s) (hx : ev f x = .slice (some ⟨b, 0, none⟩) m c) (hy : ev f y = .int k i) (h0 : 0 ≤ i) (hm : i < m) (hn : Nat.blt d n = true)
 (K : X7 P n ops J r (upd f d (.pointer (some ⟨b, i.toNat * s, none⟩))) w) : X7 P n ops J (⟨some d, .indexAddr X x y, T, pos, af, none⟩ :: r) f w :=
 Zh9 t hx hy h0 hm hn (by rw [Nat.zero_add]; exact K)
structure CoI (P : Program) (a b : TypeId) (k : IntKind) : Prop where
 src : ∃ D, ∀ w, (underlying a).run P w = .ok D w
 dst : ∀ w, (underlying b).run P w = .ok (.int k) w
theorem Ym9 {a b : TypeId} {x : Operand} {s k : IntKind} {z : Int} (v : Int) (t : CoI P a b k) (hx : ev f x = .int s z) (hv : k.wrap z = v) (hn : Nat.blt d n = true)
 (K : X7 P n ops J r (upd f d (.int k v)) w) : X7 P n ops J (⟨some d, .convert a b x, T, pos, af, none⟩ :: r) f w := by
 obtain ⟨D, hD⟩ := t.src
 refine U2 U U hn ?_ K
 simp [execOp, hx, convert, hD, t.dst, Conv.intToInt, hv]
theorem V0 {x : Operand} {a : Addr} (hx : ev f x = .pointer (some a)) (hn : Nat.blt d n = true)
 (K : X7 P n ops J r (upd f d (.pointer (some a))) w) : X7 P n ops J (⟨some d, .nilCheck x, T, pos, af, none⟩ :: r) f w :=
 U2 U U hn (by simp [execOp, hx]) K
theorem M4 {X : TypeId} (v : Value) (t : ∀ w, (Instr.build X #[]).run P w = .ok v w) (hn : Nat.blt d n = true)
 (K : X7 P n ops J r (upd f d v) w) : X7 P n ops J (⟨some d, .build X #[], T, pos, af, none⟩ :: r) f w :=
 U2 U U hn (by simp only [execOp]; exact F4 (by simpa using t w)) K
structure BuI (P : Program) (T : TypeId) (Z : Array Value) (places : Array (Nat × Nat)) : Prop where
 h : ∃ z fields, (∀ w, (zeroValue T).run P w = .ok z w) ∧ z.cells = Z ∧ (∀ w, (underlying T).run P w = .ok (.struct fields) w) ∧
  ∀ w, (fields.mapM (fun (fl : Field) => (do pure (fl.offset, ← Go.sizeOf fl.type) : Sem (Nat × Nat)))).run P w = .ok places w
theorem Zr9 {place : Nat → Option (Nat × Nat)} {cs cs' : Array Value} (h : cs = cs') : Instr.fill place cs [] = some cs' := by rw [h]; rfl
theorem E1 {place : Nat → Option (Nat × Nat)} {cs : Array Value} {i off size : Nat} {v : Value} {c : List Value} {rest : List (Nat × Value)} {res : Array Value}
 (hp : place i = some (off, size)) (hc : v.cells.toList = c) (hs : c.length = size) (hf : off + c.length ≤ cs.size) (h : Instr.fill place (B6 cs off c) rest = some res) :
 Instr.fill place cs ((i, v) :: rest) = some res := by
 have hfold : ∀ (cs : List Value) (j : Nat) (A : Array Value), (cs.zipIdx j).foldl (fun A (p : Value × Nat) => A.setIfInBounds (off + p.2) p.1) A = B6 A (off + j) cs := by
  intro cs
  induction cs with
  | nil => intro j A; rfl
  | cons c cs ih => intro j A; rw [zipIdx_cons, foldl_cons, ih]; rfl
 have h1 : v.cells.zipIdx.foldl (fun cs (x : Value × Nat) => cs.setIfInBounds (off + x.2) x.1) cs = B6 cs off v.cells.toList := by
  have := hfold v.cells.toList 0 cs
  rw [Nat.add_zero] at this
  rw [← this, ← Array.foldl_toList, Array.toList_zipIdx]
 have hsz : v.cells.size = size := by rw [← Array.length_toList, hc, hs]
 simp only [Instr.fill, hp]
 rw [if_neg (by rw [hsz]; simp; omega), h1, hc]
 exact h
theorem Zw5 {X : TypeId} {ps : Array (Nat × Operand)} {vs : List (Nat × Value)} {Z : Array Value} {places : Array (Nat × Nat)} (cs : List Value) (t : BuI P X Z places) (hps : ps.map (fun p => (p.1, ev f p.2)) = vs.toArray)
 (hf : Instr.fill (places[·]?) Z vs = some cs.toArray) (hn : Nat.blt d n = true)
 (K : X7 P n ops J r (upd f d (.agg cs.toArray)) w) : X7 P n ops J (⟨some d, .build X ps, T, pos, af, none⟩ :: r) f w := by
 obtain ⟨z, fields, hz, rfl, hu, hp⟩ := t.h
 refine U2 U U hn ?_ K
 simp only [execOp]
 refine F4 ?_
 rw [hps]
 unfold Instr.build
 rw [F4 (hz w), F4 (hu w)]
 simp only []
 rw [F4 (hp w)]
 rw [hf]; rfl
theorem Ze6 {b off : Nat} {E : TypeId} {cs cs' : Array Value} {x y : Operand} {v : Value} {a : Bool} (t : TyI P T a 1) (hx : ev f x = .pointer (some ⟨b, off, none⟩)) (hy : ev f y = v)
 (hS : St H w ([(b, .cells cs E)] ++ L)) (ho : v.oneCell' = true) (hz : 0 = 0) (hl : off + 1 ≤ cs.size) (hcs : B6 cs off [v] = cs') {T' : TypeId}
 (K : ∀ w', St H w' ([(b, .cells cs' E)] ++ L) → X7 P n ops J r f w') : X7 P n ops J (⟨none, .store T x y, T', pos, af, none⟩ :: r) f w := by
 have hc := Xq8 ho
 exact J7 t hx hy hS (by rw [hc]; rfl) (by rw [hc]; exact K9 ho) hl (by rw [hc]; exact hcs) K
theorem Xt2 {xs : Array TypeId} {x y : Operand} {k k' : IntKind} {a b : Int} (hx : ev f x = .int k a) (hy : ev f y = .int k' b) (hn : Nat.blt d n = true)
 (K : X7 P n ops J r (upd f d (.int k (if b < a then b else a))) w) : X7 P n ops J (⟨some d, .call ⟨.builtin .min, #[x, y], xs⟩, T, pos, af, none⟩ :: r) f w :=
 U2 U U hn (by simp [execOp, resolve, invoke, builtin, Builtin.min_, Builtin.min2, hx, hy]) K
theorem Vl7 {xs : Array TypeId} {x y : Operand} {k k' : IntKind} {a b : Int} (hx : ev f x = .int k a) (hy : ev f y = .int k' b) (hn : Nat.blt d n = true)
 (K : X7 P n ops J r (upd f d (.int k (if a < b then b else a))) w) : X7 P n ops J (⟨some d, .call ⟨.builtin .max, #[x, y], xs⟩, T, pos, af, none⟩ :: r) f w :=
 U2 U U hn (by simp [execOp, resolve, invoke, builtin, Builtin.max_, Builtin.max2, hx, hy]) K
end
section
variable {f : Fr} {x1 x2 x3 x4 : Operand} {v1 v2 v3 v4 : Value} {i1 i2 i3 i4 : Nat}
theorem D3 (h1 : ev f x1 = v1) : (#[(i1, x1)] : Array (Nat × Operand)).map (fun p => (p.1, ev f p.2)) = [(i1, v1)].toArray := by simp [h1]
theorem Yc0 (h1 : ev f x1 = v1) (h2 : ev f x2 = v2) : (#[(i1, x1), (i2, x2)] : Array (Nat × Operand)).map (fun p => (p.1, ev f p.2)) = [(i1, v1), (i2, v2)].toArray := by simp [h1, h2]
end
section
variable {α : Type} {τ : Ty α} {H : FH} {v1 v2 v3 v4 : Value} {a1 a2 a3 a4 : α}
theorem Zl6 (h1 : τ.rel H v1.cells.toList a1) : ∀ (i : Nat) (x : α), [a1][i]? = some x → ∃ v : Value, [v1][i]? = some v ∧ τ.rel H v.cells.toList x := by
 intro i x hx
 match i, hx with
 | 0, hx => cases hx; exact ⟨_, rfl, h1⟩
theorem Vi1 (h1 : τ.rel H v1.cells.toList a1) (h2 : τ.rel H v2.cells.toList a2) : ∀ (i : Nat) (x : α), [a1, a2][i]? = some x → ∃ v : Value, [v1, v2][i]? = some v ∧ τ.rel H v.cells.toList x := by
 intro i x hx
 match i, hx with
 | 0, hx => cases hx; exact ⟨_, rfl, h1⟩
 | 1, hx => cases hx; exact ⟨_, rfl, h2⟩
end
theorem X8 {b : Bool} (h : ¬ b = true) : b = false := by simpa using h
def eq8 (a b : A8) : Bool := decide (a 0 = b 0) && decide (a 1 = b 1) && decide (a 2 = b 2) && decide (a 3 = b 3) && decide (a 4 = b 4) && decide (a 5 = b 5) && decide (a 6 = b 6) && decide (a 7 = b 7)
theorem Zf3 {a b : A8} : eq8 a b = true ↔ a = b := by
 constructor
 intro h
 simp only [eq8, Bool.and_eq_true, decide_eq_true_eq] at h
 obtain ⟨⟨⟨⟨⟨⟨⟨h0, h1⟩, h2⟩, h3⟩, h4⟩, h5⟩, h6⟩, h7⟩ := h
 funext i
 match i with
 | 0 => exact h0
 | 1 => exact h1
 | 2 => exact h2
 | 3 => exact h3
 | 4 => exact h4
 | 5 => exact h5
 | 6 => exact h6
 | 7 => exact h7
 rintro rfl; simp [eq8]
theorem Xu1 {k : IntKind} {m : A8} {i : Int} (A B : List Value) (h0 : 0 ≤ i) (h8 : i < 8) : (A ++ (Z7 k m ++ B))[A.length + i.toNat * 1]? = some (.int k (Y5 m i)) := by
 rw [getElem?_append_right (by omega), Nat.add_sub_cancel_left, Nat.mul_one]
 have h := Ym6 (k := k) (m := m) h0 h8
 rw [getElem?_toArray] at h
 rw [getElem?_append_left (by show i.toNat < 8; omega)]
 exact h
theorem I1 {k : IntKind} {m : A8} {i : Int} (A B : List Value) (h0 : 0 ≤ i) (h8 : i < 8) : (A ++ (Z7 k m ++ B)).toArray[A.length + i.toNat * 1]? = some (.int k (Y5 m i)) := by
 rw [getElem?_toArray]; exact Xu1 A B h0 h8
theorem Vi5 {k : IntKind} {m : A8} {i : Int} {cs : Array Value} {o s : Nat} (A B : List Value) (hc : ∀ j, j < s → cs[o + j]? = (A ++ (Z7 k m ++ B))[j]?) (hs : A.length + 8 ≤ s) (h0 : 0 ≤ i) (h8 : i < 8) :
 cs[o + A.length + i.toNat * 1]? = some (.int k (Y5 m i)) := by
 rw [Nat.add_assoc, hc _ (by omega)]; exact Xu1 A B h0 h8
theorem Xc5 : ∀ (N A O B : List Value), O.length = N.length → B6 (A ++ (O ++ B)).toArray A.length N = (A ++ (N ++ B)).toArray
 | [], A, O, B, h => by
  have : O = [] := length_eq_zero_iff.1 h
  subst this; rfl
 | n :: N, A, [], B, h => by simp at h
 | n :: N, A, o :: O, B, h => by
  have ih := Xc5 N (A ++ [n]) O B (by simpa using h)
  have e1 : ((A ++ (o :: O ++ B)).toArray.setIfInBounds A.length n) = ((A ++ [n]) ++ (O ++ B)).toArray := by
   rw [setIfInBounds_toArray, set_append_right _ _ (Nat.le_refl _), Nat.sub_self]
   simp
  unfold B6
  rw [e1]
  have e2 : A.length + 1 = (A ++ [n]).length := by simp
  rw [e2, ih]
  simp
structure Vg2 (P : Program) (T : TypeId) (i off : Nat) (agg : Bool) (s : Nat) : Prop where
 h : ∃ fields fl, (∀ w, (underlying T).run P w = .ok (.struct fields) w) ∧ fields[i]? = some fl ∧ fl.offset = off ∧ (∀ w, (Go.isAgg fl.type).run P w = .ok agg w) ∧ ∀ w, (Go.sizeOf fl.type).run P w = .ok s w
section
variable {P : Program} {n : Nat} {ops : Array Oper} {J : Fr → World → Prop} {r : List Oper} {f : Fr} {w : World} {d : Nat} {T : TypeId} {pos : String} {af : Array Edge} {H : FH} {L C : OL}
variable {α : Type} {τ : Ty α}
theorem Xh7 {X : TypeId} {x : Operand} {i off s : Nat} {cs : Array Value} (v : Value) (t : Vg2 P X i off false s) (hx : ev f x = .agg cs) (hv : cs[off]? = some v) (hn : Nat.blt d n = true)
 (K : X7 P n ops J r (upd f d v) w) : X7 P n ops J (⟨some d, .field X x i, T, pos, af, none⟩ :: r) f w := by
 obtain ⟨fields, fl, hu, hf, rfl, ha, hs⟩ := t.h
 exact U2 U U hn (by simp [execOp, hx, Instr.field, hu, hf, asAgg, part, ha, hv]) K
structure EqI (P : Program) (T : TypeId) {α : Type} (enc : α → Array Value) (eqb : α → α → Bool) : Prop where
 guard : ∀ (x y : Operand) a b w, (eqGuard .eql T x y (.agg (enc a)) (.agg (enc b))).run P w = .ok () w
 guard' : ∀ (x y : Operand) a b w, (eqGuard .neq T x y (.agg (enc a)) (.agg (enc b))).run P w = .ok () w
 eq : ∀ a b w, (Op.equal T (.agg (enc a)) (.agg (enc b))).run P w = .ok (eqb a b) w
theorem Vj8 {X Y : TypeId} {β : Type} {enc : β → Array Value} {eqb : β → β → Bool} {x y : Operand} {a b : β} (t : EqI P X enc eqb) (hx : ev f x = .agg (enc a)) (hy : ev f y = .agg (enc b)) (hn : Nat.blt d n = true)
 (K : X7 P n ops J r (upd f d (.bool (eqb a b))) w) : X7 P n ops J (⟨some d, .binOp .eql X x y Y, T, pos, af, none⟩ :: r) f w := by
 refine U2 U U hn ?_ K
 simp [execOp, hx, hy, t.guard, binOp, t.eq]
end
theorem V2 {P : Program} {n : Nat} {ops : Array Oper} {J : Fr → World → Prop} {r : List Oper} {f : Fr} {w : World} {o : Oper} {j d e : Nat} {b : Bool} (hg : o.guard = some (j, b)) (hj : (ops[j]?).bind (·.dst) = some d) (hv : ev f (.tmp d) = undef)
 (hd : o.dst = some e) (hn : Nat.blt e n = true) (k : X7 P n ops J r (upd f e undef) w) : X7 P n ops J (o :: r) f w := by
 intro a ha
 unfold wpList
 have hy : yielded ops a.tmps j = none := by
  unfold yielded
  rw [hj]
  simp only [Option.bind_some]
  have h := ha.slots d
  have hv' : f d = undef := hv
  rw [hv', Array.getD_eq_getD_getElem?] at h
  cases hq : a.tmps[d]? with
  | none => rfl
  | some v => rw [hq] at h; simp at h; subst h; rfl
 rw [if_neg (by simp [Region.wanted, hg, hy]), hd]
 exact k _ (ha.put hn undef)
section
variable {P : Program} {w : World}
theorem Xf6 {T E : TypeId} {k : IntKind} {i : TypeInfo} (d : Nat) (hu : P.underlying T = some (.array 8 E)) (he : P.underlying E = some (.int k)) (hi : P.info? E = some i) (hs : i.size = 1) (a b : A8) :
 (Op.equalIn (d + 2) T (.agg (Z7 k a).toArray) (.agg (Z7 k b).toArray)).run P w = .ok (eq8 a b) w := by
 rw [run_equalIn_array w (d + 1) _ _ hu hi]
 have hc : P.cellsOf E = 1 := by simp [Program.cellsOf, hi, hs]
 have hp : ∀ (m : A8) (j : Nat) (hj : j < 8), (part E (Z7 k m).toArray (j * 1)).run P w = .ok (.int k (m ⟨j, hj⟩)) w := by
  intro m j hj
  have hg : (Z7 k m).toArray[j]? = some (.int k (m ⟨j, hj⟩)) := by
   match j, hj with
   | 0, _ | 1, _ | 2, _ | 3, _ | 4, _ | 5, _ | 6, _ | 7, _ => rfl
  simp [part, isAgg, run_underlying he, hg]
 have he' : ∀ (x y : Int), (Op.equalIn (d + 1) E (.int k x) (.int k y)).run P w = .ok (x == y) w := fun x y => run_equalIn_int w d E k k x y he
 rw [hc]
 have key : ∀ (is : List Nat), (∀ j, j ∈ is → j < 8) → (Op.eqItems (d + 1) E 1 (Z7 k a).toArray (Z7 k b).toArray is).run P w = .ok (is.all fun j => if h : j < 8 then a ⟨j, h⟩ == b ⟨j, h⟩ else true) w := by
  intro is
  induction is with
  | nil => intro _; simp [Op.eqItems]
  | cons j is ih =>
   intro h
   have hj := h j (mem_cons_self ..)
   simp only [Op.eqItems, Sem.run_bind, hp a j hj, hp b j hj, Result.andThen_ok, he', Sem.run_ite]
   rw [ih (fun x hx => h x (mem_cons_of_mem _ hx)), all_cons]
   rw [dif_pos hj]
   cases hab : (a ⟨j, hj⟩ == b ⟨j, hj⟩) <;> simp
 rw [key _ (fun j hj => by simpa using hj)]
 congr 1
 rw [Bool.eq_iff_iff, Zf3]
 constructor
 intro h
 funext ⟨j, hj⟩
 have := all_eq_true.1 h j (by simpa using hj)
 simpa [hj] using this
 rintro rfl; simp
theorem Vm2 {T E : TypeId} {k : IntKind} {i : TypeInfo} (hg : P.eqGuardType P.depth T = false) (hu : P.underlying T = some (.array 8 E)) (he : P.underlying E = some (.int k)) (hi : P.info? E = some i) (hs : i.size = 1) :
 EqI P T (fun a => (Z7 k a).toArray) eq8 :=
 ⟨fun _ _ _ _ w => run_eqGuard_agg w _ _ _ _ _ _ hg, fun _ _ _ _ w => run_eqGuard_agg w _ _ _ _ _ _ hg, fun a b w => Xf6 9998 hu he hi hs a b⟩
def Wp3 (a b : A8 × Int) : Bool := eq8 a.1 b.1 && decide (a.2 = b.2)
theorem Vn1 {T M E I : TypeId} {i j l : TypeInfo} {fs : Array Field} {f1 f2 : Field} (hg : P.eqGuardType P.depth T = false) (hp : P.stoodInHeld T = false) (hT : P.underlying T = some (.struct fs)) (hfs : fs = #[f1, f2]) (hn1 : f1.name ≠ "_" ∧ f1.type = M ∧ f1.offset = 0) (hn2 : f2.name ≠ "_" ∧ f2.type = I ∧ f2.offset = 8)
 (hM : P.underlying M = some (.array 8 E)) (he : P.underlying E = some (.int .u8)) (hi : P.info? E = some i) (hs : i.size = 1) (hMi : P.info? M = some j) (hI : P.underlying I = some (.int .i64)) (hIi : P.info? I = some l) (hms : j.size = 8) :
 EqI P T (fun (a : A8 × Int) => (Z7 .u8 a.1 ++ [Value.int .i64 a.2]).toArray) Wp3 := by
 refine ⟨fun _ _ _ _ w => run_eqGuard_agg w _ _ _ _ _ _ hg, fun _ _ _ _ w => run_eqGuard_agg w _ _ _ _ _ _ hg, fun a b w => ?_⟩
 have hf : P.fieldsOf T = fs := by unfold Program.fieldsOf; rw [hT]
 have h := run_equalIn_struct (P := P) w 9999 T (Z7 .u8 a.1 ++ [Value.int .i64 a.2]).toArray (Z7 .u8 b.1 ++ [Value.int .i64 b.2]).toArray (by rw [hf]; exact hT) hp
 show (Op.equalIn (9999 + 1) T _ _).run P w = _
 rw [h, hf, hfs]
 have hpart : ∀ (m : A8 × Int), (part M (Z7 .u8 m.1 ++ [Value.int .i64 m.2]).toArray 0).run P w = .ok (.agg (Z7 .u8 m.1).toArray) w := by
  intro m
  simp [part, isAgg, run_underlying hM, sizeOf, typeInfo, hMi, hms]
  rfl
 have hpart2 : ∀ (m : A8 × Int), (part I (Z7 .u8 m.1 ++ [Value.int .i64 m.2]).toArray 8).run P w = .ok (.int .i64 m.2) w := by
  intro m
  have : (Z7 .u8 m.1 ++ [Value.int .i64 m.2])[8]? = some (.int .i64 m.2) := rfl
  simp [part, isAgg, run_underlying hI, this]
 obtain ⟨hn, ht, ho⟩ := hn1
 obtain ⟨hn', ht', ho'⟩ := hn2
 simp only [Op.eqFields, hn, hn', ht, ht', ho, ho', ne_eq, not_false_eq_true, if_true, Sem.run_bind, hpart, hpart2, Result.andThen_ok, Xf6 (w := w) 9997 hM he hi hs, Sem.run_ite, run_equalIn_int w 9998 I .i64 .i64 _ _ hI]
 unfold Wp3
 cases eq8 a.1 b.1
 simp
 by_cases e : a.2 = b.2
 simp [e]
 simp [e]
end
theorem N1 {P : Program} {n : Nat} {g : FuncId} {R : Ending → World → Prop} {c : Item} {K : List Item} {f0 : Fr} {w0 : World} (J : Fr → World → Prop) (h : ∀ f w, J f w → Run P n g R K f w)
 (h' : (∀ f w, J f w → Run P n g R K f w) → Run P n g R (c :: K) f0 w0) : Run P n g R (c :: K) f0 w0 := h' h
def Zt4 {α : Type} (τ : Ty α) (H : FH) (v : Value) (x : α) : Prop :=
 ∃ b o cs E ec, v = .pointer (some ⟨b, o, none⟩) ∧ H b = some (.cells cs E) ∧ τ.rel H ec x ∧ ∀ j, j < τ.size → cs[o + j]? = ec[j]?
theorem Zt4.mono {α : Type} {τ : Ty α} {H H' : FH} {v : Value} {x : α} (hs : Sub H H') : Zt4 τ H v x → Zt4 τ H' v x :=
 fun ⟨b, o, cs, E, ec, hv, hb, hr, hc⟩ => ⟨b, o, cs, E, ec, hv, hs.1 _ _ hb, τ.mono hs hr, hc⟩
def Vk7 {α : Type} (τ : Ty α) : Ty α :=
 ⟨1, fun H cs x => ∃ v, cs = [v] ∧ Zt4 τ H v x, fun ⟨_, h, _⟩ => by rw [h]; rfl, fun hs ⟨v, h, hr⟩ => ⟨v, h, hr.mono hs⟩,
  fun ⟨v, h, b, o, cs, E, ec, hv, _⟩ u hu => by rw [h] at hu; simp at hu; subst hu; subst hv; rfl⟩
theorem St.freezeBox {H : FH} {w : World} {L : OL} {b : Nat} {o : Obj} (h : St H w ([(b, o)] ++ L)) (hz : nz o := by first | exact U | trivial) : ∃ H', Sub H H' ∧ St H' w L ∧ H' b = some o := by
 have h' : St H w ((b, o) :: L) := h
 exact ⟨H.add b o, Sub.add h'.none, h'.freeze hz, FH.add_self ..⟩
theorem Ys5 (xs : List Value) (n : Nat) : ∀ j, j < n → xs.toArray[0 + j]? = xs[j]? := fun j _ => by rw [Nat.zero_add]; simp
abbrev MpT := List (A8 × Int)
def B8 (k : IntKind) (a : A8) : Value := .agg (Z7 k a).toArray
structure Yc3 (P : Program) (T K E : TypeId) (k : IntKind) : Prop where
 under : ∀ w, (underlying T).run P w = .ok (.map K E) w
 check : ∀ (b : Bool) (a : A8) (w : World), (Instr.checkKey b 10000 K (B8 k a)).run P w = .ok () w
 equal : ∀ (a b : A8) (w : World), (Op.equal K (B8 k a) (B8 k b)).run P w = .ok (eq8 a b) w
 arr : ∀ w, ∃ el, (underlying K).run P w = .ok (.array 8 el) w
 zero : ∀ w, (zeroValue E).run P w = .ok (.int .i64 0) w
structure Ent (k : IntKind) (es : Array MapEntry) (clock : Nat) (xs : MpT) : Prop where
 kv : es.toList.map (fun e => (e.key, e.val)) = xs.map fun p => (B8 k p.1, Value.int .i64 p.2)
 keys : (xs.map Prod.fst).Nodup
 born : (es.toList.map (·.born)).Pairwise (· < ·)
 clk : ∀ e, e ∈ es.toList → e.born < clock
def Zv5 (xs : MpT) (a : A8) : Option (Nat × Int) := (xs.zipIdx.find? fun p => eq8 a p.1.1).map fun p => (p.2, p.1.2)
theorem Ys2 {P : Program} {K : TypeId} {k : IntKind} {w : World} (he : ∀ (a b : A8) (w : World), (Op.equal K (B8 k a) (B8 k b)).run P w = .ok (eq8 a b) w) (a : A8) :
 ∀ (es : List MapEntry) (xs : MpT) (i : Nat), es.map (fun e => (e.key, e.val)) = xs.map (fun p => (B8 k p.1, Value.int .i64 p.2)) →
  (Instr.findAsking K (B8 k a) es i).run P w = .ok (((xs.zipIdx i).find? fun p => eq8 a p.1.1).map fun p => (p.2, Value.int .i64 p.1.2)) w
 | [], xs, i, h => by
  cases xs with
  | nil => simp [Instr.findAsking]
  | cons x xs => simp at h
 | e :: es, xs, i, h => by
  cases xs with
  | nil => simp at h
  | cons x xs =>
   simp only [map_cons, cons.injEq, Prod.mk.injEq] at h
   obtain ⟨⟨h1, h2⟩, h3⟩ := h
   have ih := Ys2 (w := w) he a es xs (i + 1) h3
   rw [zipIdx_cons, find?_cons]
   unfold Instr.findAsking
   rw [h1]
   simp only [Sem.run_bind, he, Result.andThen_ok, Sem.run_ite]
   cases eq8 a x.1
   simp [ih]
   simp [h2]
theorem Yq0 {P : Program} {T K E : TypeId} {k : IntKind} {w : World} (t : Yc3 P T K E k) (a : A8) {es : List MapEntry} {xs : MpT} (h : es.map (fun e => (e.key, e.val)) = xs.map (fun p => (B8 k p.1, Value.int .i64 p.2))) :
 (Instr.findKey K (B8 k a) es).run P w = .ok ((Zv5 xs a).map fun p => (p.1, Value.int .i64 p.2)) w := by
 obtain ⟨el, hu⟩ := t.arr w
 have hf := Ys2 (w := w) (P := P) (K := K) (k := k) t.equal a es xs 0 h
 unfold Instr.findKey Zv5
 simp only [Sem.run_bind, hu, Result.andThen_ok]
 cases es with
 | nil =>
  cases xs with
  | nil => simp [Instr.findNow]
  | cons x xs => simp at h
 | cons e es =>
  cases xs with
  | nil => simp at h
  | cons x xs =>
   have : Instr.findNow (.array 8 el) (B8 k a) (e :: es) 0 = none := by
    simp only [map_cons, cons.injEq, Prod.mk.injEq] at h
    unfold Instr.findNow
    rw [h.1.1]; rfl
   simp only [this, hf, Option.map_map]
   rfl
def N5 (xs : MpT) (a : A8) : Int := ((xs.find? fun p => eq8 a p.1).map Prod.snd).getD 0
theorem Wp9 (xs : MpT) (a : A8) : ((Zv5 xs a).map Prod.snd).getD 0 = N5 xs a := by
 unfold Zv5 N5
 suffices ∀ i, (((xs.zipIdx i).find? fun p => eq8 a p.1.1).map fun p => p.1.2) = (xs.find? fun p => eq8 a p.1).map Prod.snd by
  have := this 0
  simp only [Option.map_map] at this ⊢
  rw [← this]; rfl
 induction xs with
 | nil => intro i; rfl
 | cons x xs ih =>
  intro i
  rw [zipIdx_cons, find?_cons, find?_cons]
  cases eq8 a x.1
  simpa using ih (i + 1)
  rfl
theorem Zg7 {P : Program} {w : World} {b : Nat} {es : Array MapEntry} {clock : Nat} (h : w.heap[b]? = some (.map es clock)) : (getObj b).run P w = .ok (.map es clock) w := by simp [getObj, Sem.run, h]
theorem Xc7 {P : Program} {T K E : TypeId} {k : IntKind} {w : World} (t : Yc3 P T K E k) (a : A8) {b : Nat} {es : Array MapEntry} {clock : Nat} {xs : MpT}
 (hb : w.heap[b]? = some (.map es clock)) (h : Ent k es clock xs) : (Instr.lookup T (.map (some b)) (B8 k a) false).run P w = .ok (.int .i64 (N5 xs a)) w := by
 have hf := Yq0 (w := w) t a h.kv
 unfold Instr.lookup
 simp only [Sem.run_bind, t.under, Result.andThen_ok, Sem.run_pure, Zg7 hb, t.check, hf, t.zero]
 rw [← Wp9]
 cases Zv5 xs a with
 | none => simp [t.zero, Sem.run_bind]
 | some p => simp
def Xk3 (xs : MpT) (a : A8) (x : Int) : MpT := match Zv5 xs a with | some (i, _) => xs.modify i (fun p => (p.1, x)) | none => xs ++ [(a, x)]
def Xk5 (xs : MpT) (a : A8) : MpT := match Zv5 xs a with | some (i, _) => xs.eraseIdx i | none => xs
theorem Yj5 {xs : MpT} {a : A8} {i : Nat} {x : Int} (h : Zv5 xs a = some (i, x)) : xs[i]? = some (a, x) := by
 unfold Zv5 at h
 obtain ⟨p, hp, e⟩ := Option.map_eq_some_iff.1 h
 have hm := mem_of_find?_eq_some hp
 have hq := find?_some hp
 obtain ⟨⟨k, y⟩, j⟩ := p
 cases e
 have := mem_zipIdx_iff_getElem?.1 hm
 simp only [Zf3] at hq
 subst hq
 simpa using this
theorem Yu0 {xs : MpT} {a : A8} (h : Zv5 xs a = none) : a ∉ xs.map Prod.fst := by
 intro hm
 obtain ⟨p, hp, e⟩ := mem_map.1 hm
 unfold Zv5 at h
 have h := find?_eq_none.1 (Option.map_eq_none_iff.1 h)
 obtain ⟨j, hj, hl⟩ := getElem_of_mem hp
 have := h (p, j) (mem_zipIdx_iff_getElem?.2 (by simp [hj, hl]))
 apply this
 simp only [Zf3]
 exact e.symm
theorem Xy2 (k : IntKind) (a : A8) : Instr.sameBits 10000 (B8 k a) (B8 k a) = true := by
 simp [Instr.sameBits, B8, Z7]
theorem Yr9 {P : Program} {T K E : TypeId} {k : IntKind} {w : World} {H : FH} {L : OL} (t : Yc3 P T K E k) (a : A8) (x : Int) {b : Nat} {es : Array MapEntry} {clock : Nat} {xs : MpT}
 (hS : St H w ((b, .map es clock) :: L)) (h : Ent k es clock xs) :
 ∃ es' clock' w', (Instr.mapUpdate T (.map (some b)) (B8 k a) (.int .i64 x)).run P w = .ok () w' ∧ St H w' ((b, .map es' clock') :: L) ∧ Ent k es' clock' (Xk3 xs a x) := by
 have hf := Yq0 (w := w) t a h.kv
 have hb := hS.hd
 cases hm : Zv5 xs a with
 | none =>
  rw [hm] at hf
  refine ⟨es.push ⟨B8 k a, .int .i64 x, clock⟩, clock + 1, _, ?_, hS.put _, ?_⟩
  unfold Instr.mapUpdate
  simp only [Sem.run_bind, t.under, Result.andThen_ok, Sem.run_pure, Zg7 hb, t.check, hf, Option.map_none]
  simp [setObj, Sem.run, hb]
  unfold Xk3
  rw [hm]
  refine ⟨by simp [h.kv], ?_, ?_, ?_⟩
  rw [map_append, nodup_append]
  refine ⟨h.keys, by simp, ?_⟩
  intro p hp q hq
  simp at hq
  subst hq
  intro e
  subst e
  exact Yu0 hm hp
  rw [Array.toList_push, map_append, pairwise_append]
  refine ⟨h.born, by simp, ?_⟩
  intro p hp q hq
  obtain ⟨e, he, rfl⟩ := mem_map.1 hp
  simp at hq
  subst hq
  exact h.clk e he
  intro e he
  rw [Array.toList_push] at he
  rcases mem_append.1 he with he | he
  have := h.clk e he; omega
  simp at he; subst he; simp
 | some p =>
  obtain ⟨i, y⟩ := p
  rw [hm] at hf
  have hx := Yj5 hm
  have hxi : i < xs.length := (List.getElem?_eq_some_iff.1 hx).1
  have hlen : es.toList.length = xs.length := by have := congrArg length h.kv; simpa using this
  have hei : i < es.size := by
   have : es.toList.length = es.size := by simp
   omega
  have hkey : (es[i]?).map (·.key) = some (B8 k a) := by
   have := congrArg (fun l => (l[i]?).map Prod.fst) h.kv
   simp only [getElem?_map, hx, Option.map_some, Option.map_map] at this
   rw [← Array.getElem?_toList, ← this]
   cases es.toList[i]? <;> rfl
  have hold : ((es[i]?).map (·.key)).getD (B8 k a) = B8 k a := by rw [hkey]; rfl
  refine ⟨es.modify i fun e => { e with key := B8 k a, val := .int .i64 x }, clock, _, ?_, hS.put _, ?_⟩
  unfold Instr.mapUpdate
  simp only [Sem.run_bind, t.under, Result.andThen_ok, Sem.run_pure, Zg7 hb, t.check, hf, Option.map_some, Instr.keyThatStays, hold, Xy2, if_true]
  simp [setObj, Sem.run, hb]
  unfold Xk3
  rw [hm]
  have hmod : (es.modify i fun e => { e with key := B8 k a, val := .int .i64 x }).toList = es.toList.modify i fun e => { e with key := B8 k a, val := .int .i64 x } := by simp
  refine ⟨?_, ?_, ?_, ?_⟩
  rw [hmod]
  apply ext_getElem?
  intro j
  have hj := congrArg (fun l => l[j]?) h.kv
  simp only [getElem?_map] at hj
  simp only [getElem?_map, getElem?_modify]
  by_cases e : i = j
  subst e
  rw [hx] at hj ⊢
  cases he : es.toList[i]? with
  | none => rw [he] at hj; simp at hj
  | some e0 => simp
  simp only [e, if_false, id]
  simpa using hj
  have : (xs.modify i fun p => (p.1, x)).map Prod.fst = xs.map Prod.fst := by
   apply ext_getElem?
   intro j
   simp only [getElem?_map, getElem?_modify]
   cases xs[j]? <;> simp
   split <;> rfl
  simp only [this]
  exact h.keys
  have : (es.modify i fun e => { e with key := B8 k a, val := .int .i64 x }).toList.map (·.born) = es.toList.map (·.born) := by
   rw [hmod]
   apply ext_getElem?
   intro j
   simp only [getElem?_map, getElem?_modify]
   cases es.toList[j]? <;> simp
   split <;> rfl
  rw [this]; exact h.born
  intro e he
  rw [hmod] at he
  obtain ⟨j, hj, rfl⟩ := getElem_of_mem he
  have hj' : j < es.toList.length := by simpa using hj
  have := h.clk es.toList[j] (getElem_mem hj')
  rw [getElem_modify]
  split
  exact this
  exact this
theorem Yi3 {α β : Type} (g : α → β) : ∀ (l : List α) (i : Nat), (l.eraseIdx i).map g = (l.map g).eraseIdx i
 | [], _ => rfl
 | a :: l, 0 => rfl
 | a :: l, i + 1 => by simp [Yi3 g l i]
theorem Wc5 {P : Program} {T K E : TypeId} {k : IntKind} {w : World} {H : FH} {L : OL} (t : Yc3 P T K E k) (a : A8) {b : Nat} {es : Array MapEntry} {clock : Nat} {xs : MpT} {ty : TypeId}
 (hS : St H w ((b, .map es clock) :: L)) (h : Ent k es clock xs) :
 ∃ es' w', (Builtin.delete_ #[T, K] ty #[.map (some b), B8 k a]).run P w = .ok (.tuple #[]) w' ∧ St H w' ((b, .map es' clock) :: L) ∧ Ent k es' clock (Xk5 xs a) := by
 have hf := Yq0 (w := w) t a h.kv
 have hb := hS.hd
 cases hm : Zv5 xs a with
 | none =>
  rw [hm] at hf
  refine ⟨es, _, ?_, hS.put _, ?_⟩
  unfold Builtin.delete_
  simp only [getElem?_toArray, getElem?_cons_zero, getElem?_cons_succ, Sem.run_bind, t.under, Result.andThen_ok, Sem.run_pure, Zg7 hb, t.check, hf, Option.map_none]
  simp [setObj, Sem.run, hb]
  unfold Xk5
  rw [hm]; exact h
 | some p =>
  obtain ⟨i, y⟩ := p
  rw [hm] at hf
  have hx := Yj5 hm
  have hxi : i < xs.length := (List.getElem?_eq_some_iff.1 hx).1
  have hlen : es.toList.length = xs.length := by have := congrArg length h.kv; simpa using this
  have hei : i < es.size := by
   have : es.toList.length = es.size := by simp
   omega
  have htl : (es.eraseIdxIfInBounds i).toList = es.toList.eraseIdx i := by
   unfold Array.eraseIdxIfInBounds
   rw [dif_pos hei]; simp
  refine ⟨es.eraseIdxIfInBounds i, _, ?_, hS.put _, ?_⟩
  unfold Builtin.delete_
  simp only [getElem?_toArray, getElem?_cons_zero, getElem?_cons_succ, Sem.run_bind, t.under, Result.andThen_ok, Sem.run_pure, Zg7 hb, t.check, hf, Option.map_some]
  simp [setObj, Sem.run, hb]
  unfold Xk5
  rw [hm]
  simp only
  refine ⟨?_, ?_, ?_, ?_⟩
  rw [htl, Yi3, h.kv, Yi3]
  rw [Yi3]; exact h.keys.sublist (eraseIdx_sublist _ _)
  rw [htl, Yi3]; exact h.born.sublist (eraseIdx_sublist _ _)
  intro e he
  rw [htl] at he
  exact h.clk e ((eraseIdx_sublist _ _).subset he)
theorem Ww5 {xs : MpT} {a : A8} {i : Nat} {x : Int} (h : xs[i]? = some (a, x)) : xs = xs.take i ++ (a, x) :: xs.drop (i + 1) := by
 obtain ⟨hi, he⟩ := List.getElem?_eq_some_iff.1 h
 rw [← he, getElem_cons_drop, take_append_drop]
theorem Ya7 {xs : MpT} {a : A8} (h : a ∉ xs.map Prod.fst) : xs.filter (fun p => !eq8 a p.1) = xs := by
 refine filter_eq_self.2 (fun p hp => ?_)
 cases e : eq8 a p.1 with
 | false => rfl
 | true => exact absurd (mem_map.2 ⟨p, hp, (Zf3.1 e).symm⟩) h
theorem Xs2 {xs : MpT} {a : A8} {i : Nat} {x : Int} (hk : (xs.map Prod.fst).Nodup) (h : xs[i]? = some (a, x)) :
 xs.filter (fun p => !eq8 a p.1) = xs.take i ++ xs.drop (i + 1) := by
 have e := Ww5 h
 rw [e] at hk
 rw [map_append, map_cons, nodup_append] at hk
 obtain ⟨h1, h2, h3⟩ := hk
 obtain ⟨h4, h5⟩ := nodup_cons.1 h2
 have ea : eq8 a a = true := Zf3.2 U
 conv => lhs; rw [e]
 rw [filter_append, filter_cons, if_neg (by simp [ea])]
 congr 1
 exact Ya7 (fun hm => h3 a hm a (mem_cons_self ..) U)
 exact Ya7 h4
def l8 (a : A8) : List Int := [a 0, a 1, a 2, a 3, a 4, a 5, a 6, a 7]
theorem Vh7 {a b : A8} (h : l8 a = l8 b) : a = b := by
 simp only [l8, cons.injEq, and_true] at h
 obtain ⟨h0, h1, h2, h3, h4, h5, h6, h7⟩ := h
 funext i
 match i with
 | 0 => exact h0
 | 1 => exact h1
 | 2 => exact h2
 | 3 => exact h3
 | 4 => exact h4
 | 5 => exact h5
 | 6 => exact h6
 | 7 => exact h7
def Zi3 : List Int → List Int → Bool
 | x :: xs, y :: ys => if x = y then Zi3 xs ys else decide (y < x)
 | _, _ => false
theorem Xc8 : ∀ xs, Zi3 xs xs = false
 | [] => rfl
 | x :: xs => by simp [Zi3, Xc8 xs]
theorem Xi2 : ∀ xs ys zs, Zi3 xs ys = true → Zi3 ys zs = true → Zi3 xs zs = true
 | [], _, _, h, _ => by simp [Zi3] at h
 | _ :: _, [], _, h, _ => by simp [Zi3] at h
 | _ :: _, _ :: _, [], _, h => by simp [Zi3] at h
 | x :: xs, y :: ys, z :: zs, h1, h2 => by
  have ih := Xi2 xs ys zs
  simp only [Zi3] at h1 h2 ⊢
  by_cases e1 : x = y
  subst e1
  rw [if_pos U] at h1
  by_cases e2 : x = z
  subst e2
  rw [if_pos U] at h2 ⊢
  exact ih h1 h2
  rw [if_neg e2] at h2 ⊢; exact h2
  rw [if_neg e1] at h1
  have h1' := of_decide_eq_true h1
  by_cases e2 : y = z
  subst e2; rw [if_neg e1]; exact h1
  rw [if_neg e2] at h2
  have h2' := of_decide_eq_true h2
  rw [if_neg (by omega)]
  exact decide_eq_true (by omega)
theorem Xh6 : ∀ xs ys, xs.length = ys.length → xs ≠ ys → Zi3 xs ys = true ∨ Zi3 ys xs = true
 | [], [], _, h => absurd U h
 | [], _ :: _, h, _ => by simp at h
 | _ :: _, [], h, _ => by simp at h
 | x :: xs, y :: ys, hl, hne => by
  simp only [Zi3]
  by_cases e : x = y
  subst e
  rw [if_pos U, if_pos U]
  exact Xh6 xs ys (by simpa using hl) (fun h => hne (by rw [h]))
  rw [if_neg e, if_neg (fun h => e h.symm)]
  rcases Int.lt_or_gt_of_ne e with h | h
  exact .inr (decide_eq_true h)
  exact .inl (decide_eq_true h)
def bef (a b : A8) : Bool := Zi3 (l8 a) (l8 b)
theorem Zh0 (a : A8) : bef a a = false := Xc8 _
theorem Zq6 {a b c : A8} : bef a b = true → bef b c = true → bef a c = true := Xi2 _ _ _
theorem Yi0 {a b : A8} (h : a ≠ b) : bef a b = true ∨ bef b a = true := Xh6 _ _ U (fun e => h (Vh7 e))
abbrev Srt (xs : MpT) : Prop := xs.Pairwise fun p q => bef p.1 q.1 = true
theorem Xi3 : ∀ {xs ys : MpT}, Srt xs → Srt ys → xs.Perm ys → xs = ys
 | [], ys, _, _, h => (nil_perm.1 h).symm
 | p :: xs, [], _, _, h => by have := h.length_eq; simp at this
 | p :: xs, q :: ys, h1, h2, h => by
  have a1 := pairwise_cons.1 h1
  have a2 := pairwise_cons.1 h2
  have e : p = q := by
   rcases mem_cons.1 (h.mem_iff.1 (mem_cons_self ..)) with e | hp
   exact e
   rcases mem_cons.1 (h.mem_iff.2 (mem_cons_self ..)) with e | hq
   exact e.symm
   have := Zq6 (a2.1 p hp) (a1.1 q hq)
   rw [Zh0] at this; cases this
  subst e
  rw [Xi3 a1.2 a2.2 (perm_cons p |>.1 h)]
theorem Zu6 {xs : MpT} (h : Srt xs) : (xs.map Prod.fst).Nodup := by
 unfold List.Nodup
 rw [pairwise_map]
 refine h.imp fun {a b} hb => ?_
 intro e
 rw [e, Zh0] at hb; cases hb
def ins (p : A8 × Int) : MpT → MpT
 | [] => [p]
 | q :: l => if bef p.1 q.1 = true then p :: q :: l else q :: ins p l
theorem Zv2 (p : A8 × Int) : ∀ l, (ins p l).Perm (p :: l)
 | [] => .refl _
 | q :: l => by
  unfold ins
  split
  exact .refl _
  exact ((Zv2 p l).cons q).trans (.swap ..)
theorem Wi0 {p : A8 × Int} : ∀ {l : MpT}, Srt l → (∀ q, q ∈ l → q.1 ≠ p.1) → Srt (ins p l)
 | [], _, _ => pairwise_singleton ..
 | q :: l, h, hn => by
  have a := pairwise_cons.1 h
  unfold ins
  split
  rename_i hb
  refine pairwise_cons.2 ⟨fun r hr => ?_, h⟩
  rcases mem_cons.1 hr with rfl | hr
  exact hb
  exact Zq6 hb (a.1 r hr)
  rename_i hb
  have hq : bef q.1 p.1 = true := (Yi0 (hn q (mem_cons_self ..))).resolve_right hb
  refine pairwise_cons.2 ⟨fun r hr => ?_, Wi0 a.2 (fun r hr => hn r (mem_cons_of_mem _ hr))⟩
  rcases mem_cons.1 ((Zv2 p l).mem_iff.1 hr) with rfl | hr
  exact hq
  exact a.1 r hr
def Zz2 (xs : MpT) (a : A8) : MpT := xs.filter fun p => !eq8 a p.1
def Zc9 (xs : MpT) (a : A8) (x : Int) : MpT := ins (a, x) (Zz2 xs a)
theorem Xd7 {xs : MpT} (h : Srt xs) (a : A8) : Srt (Zz2 xs a) := h.sublist filter_sublist
theorem Wx9 {xs : MpT} {a : A8} : ∀ q, q ∈ Zz2 xs a → q.1 ≠ a := by
 intro q hq e
 have := (mem_filter.1 hq).2
 rw [e, Zf3.2 U] at this; simp at this
theorem Yo1 {xs : MpT} (h : Srt xs) (a : A8) (x : Int) : Srt (Zc9 xs a x) := Wi0 (Xd7 h a) Wx9
theorem Xh4 {xs : MpT} (hk : (xs.map Prod.fst).Nodup) (a : A8) (x : Int) : (Xk3 xs a x).Perm (Zc9 xs a x) := by
 unfold Xk3 Zc9 Zz2
 cases h : Zv5 xs a with
 | none =>
  simp only
  rw [Ya7 (Yu0 h)]
  exact (perm_append_singleton _ _).trans (Zv2 _ _).symm
 | some p =>
  obtain ⟨i, y⟩ := p
  have hx := Yj5 h
  simp only
  rw [Xs2 hk hx]
  have hi : i < xs.length := (List.getElem?_eq_some_iff.1 hx).1
  have : xs.modify i (fun p => (p.1, x)) = xs.take i ++ (a, x) :: xs.drop (i + 1) := by
   rw [modify_eq_take_cons_drop hi]
   rw [(List.getElem?_eq_some_iff.1 hx).2]
  rw [this]
  exact perm_middle.trans (Zv2 _ _).symm
theorem Wu6 {xs : MpT} (hk : (xs.map Prod.fst).Nodup) (a : A8) : Xk5 xs a = Zz2 xs a := by
 unfold Xk5 Zz2
 cases h : Zv5 xs a with
 | none => rw [Ya7 (Yu0 h)]
 | some p =>
  obtain ⟨i, y⟩ := p
  rw [Xs2 hk (Yj5 h)]
  exact eraseIdx_eq_take_drop_succ _ _
theorem Xq1 {xs ys : MpT} (h : ys.Perm xs) (a : A8) : (Zz2 ys a).Perm (Zz2 xs a) := h.filter _
theorem Xp7 {xs ys : MpT} (h : ys.Perm xs) (a : A8) (x : Int) : (Zc9 ys a x).Perm (Zc9 xs a x) := (Zv2 _ _).trans (((Xq1 h a).cons _).trans (Zv2 _ _).symm)
theorem Yl1 {xs : MpT} (hk : (xs.map Prod.fst).Nodup) {a : A8} {x : Int} (h : (a, x) ∈ xs) : N5 xs a = x := by
 unfold N5
 induction xs with
 | nil => cases h
 | cons p xs ih =>
  rw [map_cons, nodup_cons] at hk
  rw [find?_cons]
  rcases mem_cons.1 h with rfl | h
  rw [Zf3.2 U]; rfl
  cases e : eq8 a p.1 with
  | false => exact ih hk.2 h
  | true => exact absurd (mem_map.2 ⟨(a, x), h, Zf3.1 e⟩) hk.1
theorem Zk4 {xs : MpT} {a : A8} (h : a ∉ xs.map Prod.fst) : N5 xs a = 0 := by
 unfold N5
 rw [find?_eq_none.2]
 rfl
 intro p hp e
 exact h (mem_map.2 ⟨p, hp, (Zf3.1 e).symm⟩)
theorem Yx6 {xs ys : MpT} (h : ys.Perm xs) (hk : (ys.map Prod.fst).Nodup) (a : A8) : N5 ys a = N5 xs a := by
 have hk' : (xs.map Prod.fst).Nodup := (h.map Prod.fst).nodup_iff.1 hk
 by_cases hm : a ∈ xs.map Prod.fst
 obtain ⟨⟨b, x⟩, hp, rfl⟩ := mem_map.1 hm
 rw [Yl1 hk' hp, Yl1 hk (h.mem_iff.2 hp)]
 rw [Zk4 hm, Zk4 (fun hy => hm ((h.map Prod.fst).mem_iff.1 hy))]
def Q8 (k : IntKind) (v : Value) (xs : MpT) (C : OL) : Prop := Srt xs ∧ ∃ b es clock ys, v = .map (some b) ∧ C = [(b, .map es clock)] ∧ Ent k es clock ys ∧ ys.Perm xs
def N0 (k : IntKind) (H : FH) (v : Value) (xs : MpT) : Prop := (v = .map none ∧ xs = []) ∨ Srt xs ∧ ∃ b es clock ys, v = .map (some b) ∧ H b = some (.map es clock) ∧ Ent k es clock ys ∧ ys.Perm xs
theorem N0.nil {k : IntKind} {H : FH} : N0 k H (.map none) [] := .inl ⟨U, U⟩
theorem N0.mono {k : IntKind} {H H' : FH} {v : Value} {xs : MpT} (hs : Sub H H') : N0 k H v xs → N0 k H' v xs
 | .inl h => .inl h
 | .inr ⟨s, b, es, c, ys, h, hb, e, p⟩ => .inr ⟨s, b, es, c, ys, h, hs.1 _ _ hb, e, p⟩
theorem Q8.new {k : IntKind} (b : Nat) : Q8 k (.map (some b)) [] [(b, .map #[] 0)] := ⟨List.Pairwise.nil, b, #[], 0, [], U, U, ⟨U, by simp, by simp, by simp⟩, .refl _⟩
theorem Q8.mono {k : IntKind} {H H' : FH} {v : Value} {xs : MpT} {C : OL} (h : Q8 k v xs C) (hs : Sub H H') : Q8 k v xs C := h
theorem Q8.freeze {k : IntKind} {H : FH} {w : World} {L C : OL} {v : Value} {xs : MpT} (h : Q8 k v xs C) (hS : St H w (C ++ L)) : ∃ H', Sub H H' ∧ St H' w L ∧ N0 k H' v xs := by
 obtain ⟨s, b, es, c, ys, rfl, rfl, he, hp⟩ := h
 obtain ⟨H', hs, hS', hb⟩ := St.freezeBox hS
 exact ⟨H', hs, hS', .inr ⟨s, b, es, c, ys, U, hb, he, hp⟩⟩
theorem Q8.srt {k : IntKind} {v : Value} {xs : MpT} {C : OL} (h : Q8 k v xs C) : Srt xs := h.1
theorem N0.srt {k : IntKind} {H : FH} {v : Value} {xs : MpT} (h : N0 k H v xs) : Srt xs := h.elim (fun h => h.2 ▸ List.Pairwise.nil) (fun h => h.1)
theorem N0.val {k : IntKind} {H : FH} {v : Value} {xs : MpT} : N0 k H v xs → ∃ b, v = .map b
 | .inl ⟨h, _⟩ => ⟨_, h⟩
 | .inr ⟨_, b, _, _, _, h, _⟩ => ⟨_, h⟩
theorem N0.cellsL {k : IntKind} {H : FH} {v : Value} {xs : MpT} : N0 k H v xs → v.cells.toList = [v] := fun h => by obtain ⟨b, rfl⟩ := h.val; rfl
theorem N0.isOne {k : IntKind} {H : FH} {v : Value} {xs : MpT} (h : N0 k H v xs) : v.oneCell' = true := by obtain ⟨b, rfl⟩ := h.val; rfl
theorem Q8.cellsL {k : IntKind} {v : Value} {xs : MpT} {C : OL} : Q8 k v xs C → v.cells.toList = [v] := fun ⟨_, _, _, _, _, h, _⟩ => by subst h; rfl
theorem Q8.isOne {k : IntKind} {v : Value} {xs : MpT} {C : OL} : Q8 k v xs C → v.oneCell' = true := fun ⟨_, _, _, _, _, h, _⟩ => by subst h; rfl
def Vm7 (k : IntKind) : Ty MpT :=
 ⟨1, fun H cs xs => ∃ v, cs = [v] ∧ N0 k H v xs, fun ⟨_, h, _⟩ => by rw [h]; rfl, fun hs ⟨v, h, hr⟩ => ⟨v, h, hr.mono hs⟩,
  fun ⟨v, h, hr⟩ u hu => by rw [h] at hu; cases mem_singleton.1 hu; exact hr.isOne⟩
theorem N0.relv {k : IntKind} {H : FH} {v : Value} {xs : MpT} (h : N0 k H v xs) : (Vm7 k).rel H v.cells.toList xs := ⟨v, h.cellsL, h⟩
section
variable {P : Program} {n : Nat} {f : Fr} {w : World} {H : FH} {L C : OL} {ops : Array Oper} {J : Fr → World → Prop} {r : List Oper} {T K E T' : TypeId} {k : IntKind} {d : Nat} {pos : String} {af : Array Edge} {xs : MpT} {v : Value}
theorem Yi9 (hS : St H w L) (hn : Nat.blt d n = true)
 (Kk : ∀ v w' C, Q8 k v [] C → St H w' (C ++ L) → X7 P n ops J r (upd f d v) w') : X7 P n ops J (⟨some d, .makeMap T none, T', pos, af, none⟩ :: r) f w := by
 refine U2 (v := .map (some w.heap.size)) (w' := w.alloc (.map #[] 0)) U U hn ?_ (Kk _ _ [(w.heap.size, .map #[] 0)] ⟨List.Pairwise.nil, _, #[], 0, [], U, U, ⟨U, by simp, by simp, by simp⟩, .refl _⟩ (hS.alloc _))
 simp [execOp, Instr.makeMap, Sem.run_bind, Option.map]
theorem Wo3 {x y : Operand} {a : A8} (t : Yc3 P T K E k) (hx : ev f x = v) (hy : ev f y = .agg (Z7 k a).toArray) (h : Q8 k v xs C) (hS : St H w (C ++ L)) (hn : Nat.blt d n = true)
 (Kk : X7 P n ops J r (upd f d (.int .i64 (N5 xs a))) w) : X7 P n ops J (⟨some d, .lookup T x y false, T', pos, af, none⟩ :: r) f w := by
 obtain ⟨hsrt, b, es, c, ys, rfl, rfl, he, hp⟩ := h
 have hh := Xc7 (w := w) t a (show w.heap[b]? = _ from St.hd hS) he
 rw [Yx6 hp he.keys] at hh
 refine U2 U U hn ?_ Kk
 simp only [execOp, hx, hy, Sem.run_bind]
 unfold B8 at hh
 rw [hh]; rfl
theorem Xq3 {x y : Operand} {a : A8} (t : Yc3 P T K E k) (hx : ev f x = v) (hy : ev f y = .agg (Z7 k a).toArray) (h : N0 k H v xs) (hS : St H w L) (hn : Nat.blt d n = true)
 (Kk : X7 P n ops J r (upd f d (.int .i64 (N5 xs a))) w) : X7 P n ops J (⟨some d, .lookup T x y false, T', pos, af, none⟩ :: r) f w := by
 rcases h with ⟨rfl, rfl⟩ | ⟨hsrt, b, es, c, ys, rfl, hb, he, hp⟩
 refine U2 U U hn ?_ Kk
 have hc := t.check true a w
 unfold B8 at hc
 have hf : ∀ w, (Instr.findKey K (.agg (Z7 k a).toArray) []).run P w = .ok none w := fun w => by
  obtain ⟨el, hu⟩ := t.arr w
  unfold Instr.findKey
  simp [Sem.run_bind, hu, Instr.findNow, Instr.findAsking]
 simp only [execOp, hx, hy, Sem.run_bind]
 unfold Instr.lookup
 simp [Sem.run_bind, t.under, hc, t.zero, hf, N5]
 have hh := Xc7 (w := w) t a (hS.froz _ _ hb) he
 rw [Yx6 hp he.keys] at hh
 refine U2 U U hn ?_ Kk
 simp only [execOp, hx, hy, Sem.run_bind]
 unfold B8 at hh
 rw [hh]; rfl
theorem Yq3 {x y z : Operand} {a : A8} {m : Int} (t : Yc3 P T K E k) (hx : ev f x = v) (hy : ev f y = .agg (Z7 k a).toArray) (hz : ev f z = .int .i64 m) (h : Q8 k v xs C) (hS : St H w (C ++ L))
 (Kk : ∀ w' C', Q8 k v (Zc9 xs a m) C' → St H w' (C' ++ L) → X7 P n ops J r f w') : X7 P n ops J (⟨none, .mapUpdate T x y z, T', pos, af, none⟩ :: r) f w := by
 obtain ⟨hsrt, b, es, c, ys, rfl, rfl, he, hp⟩ := h
 obtain ⟨es', c', w', hr, hS', he'⟩ := Yr9 (P := P) (w := w) t a m hS he
 refine Ym2 U U (w' := w') ?_ (Kk w' [(b, .map es' c')] ⟨Yo1 hsrt a m, b, es', c', _, U, U, he', (Xh4 he.keys a m).trans (Xp7 hp a m)⟩ hS')
 simp only [execOp, hx, hy, hz, Sem.run_bind]
 unfold B8 at hr
 rw [hr]; rfl
theorem Ws6 {x y : Operand} {a : A8} (t : Yc3 P T K E k) (hx : ev f x = v) (hy : ev f y = .agg (Z7 k a).toArray) (h : Q8 k v xs C) (hS : St H w (C ++ L))
 (Kk : ∀ w' C', Q8 k v (Zz2 xs a) C' → St H w' (C' ++ L) → X7 P n ops J r f w') : X7 P n ops J (⟨none, .call ⟨.builtin .delete, #[x, y], #[T, K]⟩, T', pos, af, none⟩ :: r) f w := by
 obtain ⟨hsrt, b, es, c, ys, rfl, rfl, he, hp⟩ := h
 obtain ⟨es', w', hr, hS', he'⟩ := Wc5 (P := P) (w := w) (ty := T') t a hS he
 rw [Wu6 he.keys] at he'
 refine Wy1 U U (v := .tuple #[]) (w' := w') ?_ (Kk w' [(b, .map es' c)] ⟨Xd7 hsrt a, b, es', c, _, U, U, he', Xq1 hp a⟩ hS')
 unfold B8 at hr
 simp [execOp, resolve, invoke, builtin, hx, hy, hr]
theorem Wr8 {x : Operand} (t : Yc3 P T K E k) (hx : ev f x = v) (h : Q8 k v xs C) (hS : St H w (C ++ L)) (hn : Nat.blt d n = true)
 (Kk : X7 P n ops J r (upd f d (.int .i64 xs.length)) w) : X7 P n ops J (⟨some d, .call ⟨.builtin .len, #[x], #[T]⟩, T', pos, af, none⟩ :: r) f w := by
 obtain ⟨hsrt, b, es, c, ys, rfl, rfl, he, hp⟩ := h
 have hl : es.size = xs.length := by have := congrArg length he.kv; simpa [hp.length_eq] using this
 refine U2 U U hn ?_ Kk
 have hg := Zg7 (P := P) (show w.heap[b]? = _ from St.hd hS)
 simp [execOp, resolve, invoke, builtin, Builtin.len_, hx, t.under, goInt, hg, hl]
theorem Wp6 {x : Operand} (t : Yc3 P T K E k) (hx : ev f x = v) (h : N0 k H v xs) (hS : St H w L) (hn : Nat.blt d n = true)
 (Kk : X7 P n ops J r (upd f d (.int .i64 xs.length)) w) : X7 P n ops J (⟨some d, .call ⟨.builtin .len, #[x], #[T]⟩, T', pos, af, none⟩ :: r) f w := by
 rcases h with ⟨rfl, rfl⟩ | ⟨hsrt, b, es, c, ys, rfl, hb, he, hp⟩
 exact U2 U U hn (by simp [execOp, resolve, invoke, builtin, Builtin.len_, hx, t.under, goInt]) Kk
 have hl : es.size = xs.length := by have := congrArg length he.kv; simpa [hp.length_eq] using this
 refine U2 U U hn ?_ Kk
 have hg := Zg7 (P := P) (hS.froz _ _ hb)
 simp [execOp, resolve, invoke, builtin, Builtin.len_, hx, t.under, goInt, hg, hl]
end
theorem Yd5 {P : Program} {w : World} {E : TypeId} {k : IntKind} (he : P.underlying E = some (.int k)) (b : Bool) (d : Nat) (m : Int) : (Instr.checkKey b (d + 1) E (.int k m)).run P w = .ok () w := by
 unfold Instr.checkKey
 simp [Sem.run_bind, run_underlying he]
theorem Xs6 {P : Program} {w : World} {K E : TypeId} {k : IntKind} {i : TypeInfo} (d : Nat) (hu : P.underlying K = some (.array 8 E)) (he : P.underlying E = some (.int k)) (hi : P.info? E = some i) (hs : i.size = 1) (b : Bool) (a : A8) :
 (Instr.checkKey b (d + 2) K (B8 k a)).run P w = .ok () w := by
 have hp : ∀ (j : Nat) (v : Value), (Z7 k a).toArray[j]? = some v → (part E (Z7 k a).toArray j).run P w = .ok v w := by
  intro j v hg
  simp [part, isAgg, run_underlying he, hg]
 have hz : (sizeOf E).run P w = .ok 1 w := by simp [sizeOf, typeInfo, hi, hs]
 have h0 := hp 0 (.int k (a 0)) U
 have h1 := hp 1 (.int k (a 1)) U
 have h2 := hp 2 (.int k (a 2)) U
 have h3 := hp 3 (.int k (a 3)) U
 have h4 := hp 4 (.int k (a 4)) U
 have h5 := hp 5 (.int k (a 5)) U
 have h6 := hp 6 (.int k (a 6)) U
 have h7 := hp 7 (.int k (a 7)) U
 unfold Instr.checkKey B8
 simp only [Sem.run_bind, run_underlying hu, Result.andThen_ok]
 simp [Std.Legacy.Range.forIn_eq_forIn_range', Std.Legacy.Range.size, range', Sem.run_bind, hz, h0, h1, h2, h3, h4, h5, h6, h7, Yd5 he]
theorem Wy4 {P : Program} {T K E A : TypeId} {k : IntKind} {i : TypeInfo} (hT : P.underlying T = some (.map K E)) (hu : P.underlying K = some (.array 8 A)) (he : P.underlying A = some (.int k)) (hi : P.info? A = some i) (hs : i.size = 1)
 (hz : ∀ w, (zeroValue E).run P w = .ok (.int .i64 0) w) : Yc3 P T K E k :=
 ⟨run_underlying hT, fun b a w => Xs6 9998 hu he hi hs b a, fun a b w => Xf6 9998 hu he hi hs a b, fun w => ⟨A, run_underlying hu w⟩, hz⟩
end Go.Proofs.YtabofnehiclkiaaGreat
