/- Walk, rules and plain laws. -/
import Derived.Maps.RangeRun
import Derived.Test.YtabofnehiclkiaaGreatRS2
namespace Go.Proofs.YtabofnehiclkiaaGreat
open Go IntKind IntWalk List
set_option linter.all false
set_option maxRecDepth 100000
set_option maxHeartbeats 8000000
open Go.ChangeMaps (setBlock)
def Co.num (c : Co) : Nat × Nat × Nat × Nat × Nat := (c.mk_, c.d, c.k, c.i, c.x)
def Wq3 (ns : List (Nat × Nat × Nat × Nat × Nat)) (l : List Oper) (m : Nat) : Bool :=
 ns.all fun c => Nat.blt c.2.2.1 m && (Nat.blt c.1 m && (((Q4 l []).getD c.2.2.1 0).testBit c.1 &&
  ((match (l[c.1]?).bind (·.dst) with | some d => Nat.beq d c.2.1 | none => false) && ((Nat.blt c.2.2.2.1 m && (((Q4 l []).getD c.2.2.1 0).testBit c.2.2.2.1 &&
   (match (l[c.2.2.2.1]?).bind (·.dst) with | some d => Nat.beq d c.2.2.2.2 | none => false))) && ns.all fun e => (Nat.beq e.1 c.1 == Nat.beq e.2.2.1 c.2.2.1)))))
theorem Zy5 {con : Con} {ns : List (Nat × Nat × Nat × Nat × Nat)} {l : List Oper} {m : Nat} (h : con.map Co.num = ns) (h2 : Wq3 ns l m = true) : Zx9 con l m = true := by
 subst h
 unfold Wq3 at h2
 unfold Zx9
 simp only [all_map] at h2
 exact h2
theorem St.dropMid {H : FH} {w : World} {A B L : OL} (h : St H w (A ++ (B ++ L))) : St H w (A ++ L) := h.swap.dA
section
variable {P : Program} {n : Nat} {f : Fr} {w : World} {ops : Array Oper} {J : Fr → World → Prop} {r : List Oper} {T : TypeId} {d : Nat} {pos : String} {af : Array Edge}
theorem Yk1 {H : FH} {L : OL} {w : World} {Tm T' : TypeId} (hS : St H w L) (hn : Nat.blt d n = true)
 (K : ∀ b w', St H w' ([(b, .map #[] 0)] ++ L) → X7 P n ops J r (upd f d (.map (some b))) w') : X7 P n ops J (⟨some d, .makeMap Tm none, T', pos, af, none⟩ :: r) f w := by
 refine U2 (v := .map (some w.heap.size)) (w' := w.alloc (.map #[] 0)) U U hn ?_ (K _ _ (hS.alloc _))
 simp [execOp, Instr.makeMap, Sem.run_bind, Option.map]
theorem Yq8 {fn : Fn} {x : Operand} {v : Value} (hx : ev f x = v) (hn : Nat.blt d n = true) (K : X7 P n ops J r (upd f d (.func fn #[] #[v])) w) : X7 P n ops J (⟨some d, .makeFunc fn #[] #[x], T, pos, af, none⟩ :: r) f w :=
 U2 U U hn (by simp [execOp, Instr.makeFunc, hx]) K
end
def kv8 (k : IntKind) (p : A8 × Int) : Value × Value := (B8 k p.1, .int .i64 p.2)
def Zi2 (k : IntKind) (H : FH) (v : Value) (rest : MpT) (cur : Option (A8 × Int)) (C : OL) : Prop :=
 (∃ r, v = .pointer (some ⟨r, 0, none⟩) ∧ C = [(r, .mapIter none 0 #[] 0)] ∧ rest = [] ∧ cur = none) ∨
 ∃ r b es clock seen c0 ys, v = .pointer (some ⟨r, 0, none⟩) ∧ C = [(r, .mapIter (some b) clock seen c0)] ∧ H b = some (.map es clock) ∧ Ent k es clock ys ∧ clock ≤ c0 ∧
  ((leftOf es seen).toList.map fun e => (e.key, e.val)).Perm (rest.map (kv8 k)) ∧
  ∀ p, cur = some p → c0 = clock ∧ ∃ (seen0 : Array Nat) (e : MapEntry), seen = seen0.push e.born ∧ e ∈ es.toList ∧ e.key = B8 k p.1 ∧ e.val = .int .i64 p.2
theorem Zi2.drop {k : IntKind} {H : FH} {v : Value} {rest : MpT} {cur : Option (A8 × Int)} {C : OL} : Zi2 k H v rest cur C → Zi2 k H v rest none C
 | .inl ⟨r, h1, h2, h3, h4⟩ => .inl ⟨r, h1, h2, h3, U⟩
 | .inr ⟨r, b, es, c, se, c0, ys, h1, h2, h3, h4, h5, h6, h7⟩ => .inr ⟨r, b, es, c, se, c0, ys, h1, h2, h3, h4, h5, h6, fun _ h => by cases h⟩
theorem Zi2.mono {k : IntKind} {H H' : FH} {v : Value} {rest : MpT} {cur : Option (A8 × Int)} {C : OL} (h : Zi2 k H v rest cur C) (hs : Sub H H') : Zi2 k H' v rest cur C := by
 rcases h with ⟨r, h1, h2, h3, h4⟩ | ⟨r, b, es, c, se, c0, ys, h1, h2, h3, h4, h5, h6, h7⟩
 exact .inl ⟨r, h1, h2, h3, h4⟩
 exact .inr ⟨r, b, es, c, se, c0, ys, h1, h2, hs.1 _ _ h3, h4, h5, h6, h7⟩
theorem Xr1 : ∀ {l : List MapEntry} {e : MapEntry}, (l.map (·.born)).Nodup → e ∈ l → l.Perm (e :: l.filter fun x => !(x.born == e.born))
 | [], _, _, h => by cases h
 | x :: l, e, hn, h => by
  rw [map_cons, nodup_cons] at hn
  by_cases hx : x.born = e.born
  have hxe : x = e := by
   rcases mem_cons.1 h with h | h
   exact h.symm
   exact absurd (hx ▸ mem_map.2 ⟨e, h, U⟩) hn.1
  subst hxe
  rw [filter_cons, if_neg (by simp)]
  have hfs : l.filter (fun y => !(y.born == x.born)) = l := filter_eq_self.2 fun y hy => by
   have : y.born ≠ x.born := fun e => hn.1 (e ▸ mem_map.2 ⟨y, hy, U⟩)
   simp [this]
  rw [hfs]
  have he : e ∈ l := (mem_cons.1 h).resolve_left (fun e => hx (by rw [e]))
  rw [filter_cons, if_pos (by simp [hx])]
  exact ((Xr1 hn.2 he).cons x).trans (.swap ..)
theorem Xi8 {k : IntKind} {es : Array MapEntry} {clock : Nat} {ys : MpT} (h : Ent k es clock ys) : (es.toList.map (·.born)).Nodup := by
 refine h.born.imp fun {a b} hab => ?_
 omega
theorem Ws0 {es : Array MapEntry} {seen : Array Nat} {e : MapEntry} (hn : (es.toList.map (·.born)).Nodup) (he : e ∈ (leftOf es seen).toList) :
 (leftOf es seen).toList.Perm (e :: (leftOf es (seen.push e.born)).toList) := by
 have h1 : ((leftOf es seen).toList.map (·.born)).Nodup := by
  unfold leftOf
  rw [Array.toList_filter]
  exact hn.sublist (filter_sublist.map _)
 have h2 : (leftOf es (seen.push e.born)).toList = (leftOf es seen).toList.filter fun x => !(x.born == e.born) := by
  unfold leftOf
  rw [Array.toList_filter, Array.toList_filter, filter_filter]
  congr 1
  funext x
  rw [contains_push]
  cases seen.contains x.born <;> cases (x.born == e.born) <;> rfl
 rw [h2]
 exact Xr1 h1 he
section
variable {P : Program} {n : Nat} {f : Fr} {w : World} {H : FH} {L C : OL} {ops : Array Oper} {J : Fr → World → Prop} {r : List Oper} {T K E T' : TypeId} {k : IntKind} {d : Nat} {pos : String} {af : Array Edge} {xs : MpT} {v : Value}
theorem Yk3 {x : Operand} (t : Yc3 P T K E k) (hx : ev f x = v) (h : N0 k H v xs) (hS : St H w L) (hn : Nat.blt d n = true)
 (Kk : ∀ v' w' C, Zi2 k H v' xs none C → St H w' (C ++ L) → X7 P n ops J r (upd f d v') w') : X7 P n ops J (⟨some d, .range T x, T', pos, af, none⟩ :: r) f w := by
 rcases h with ⟨rfl, rfl⟩ | ⟨hsrt, b, es, c, ys, rfl, hb, he, hp⟩
 refine U2 (v := .pointer (some ⟨w.heap.size, 0, none⟩)) (w' := w.alloc (.mapIter none 0 #[] 0)) U U hn ?_ (Kk _ _ [(w.heap.size, .mapIter none 0 #[] 0)] (.inl ⟨_, U, U, U, U⟩) (hS.alloc _))
 simp [execOp, hx, Instr.range, t.under, newObj, Sem.run]
 refine U2 (v := .pointer (some ⟨w.heap.size, 0, none⟩)) (w' := w.alloc (.mapIter (some b) c #[] c)) U U hn ?_
  (Kk _ _ [(w.heap.size, .mapIter (some b) c #[] c)] (.inr ⟨_, b, es, c, #[], c, ys, rfl, rfl, hb, he, Nat.le_refl _, ?_, fun _ h => by cases h⟩) (hS.alloc _))
 have hg := Zg7 (P := P) (hS.froz _ _ hb)
 simp [execOp, hx, Instr.range, t.under, hg, newObj, Sem.run]
 have : (leftOf es #[]).toList = es.toList := by unfold leftOf; simp
 rw [this, he.kv]
 exact hp.map _
theorem Ys4 {x : Operand} {rest : MpT} {cur : Option (A8 × Int)} (hx : ev f x = v) (h : Zi2 k H v rest cur C) (hS : St H w (C ++ L)) (hn : Nat.blt d n = true)
 (K0 : rest = [] → X7 P n ops J r (upd f d (.tuple #[.bool false])) w)
 (K1 : ∀ p rest' w' C', rest.Perm (p :: rest') → Zi2 k H v rest' (some p) C' → St H w' (C' ++ L) → X7 P n ops J r (upd f d (.tuple #[.bool true, .agg (Z7 k p.1).toArray, .int .i64 p.2])) w') :
 X7 P n ops J (⟨some d, .next x false, T', pos, af, none⟩ :: r) f w := by
 rcases h with ⟨q, rfl, rfl, rfl, _⟩ | ⟨q, b, es, c, se, c0, ys, rfl, rfl, hb, he, hc, hp, _⟩
 refine U2 U U hn ?_ (K0 U)
 have hw : w.heap[q]? = _ := St.hd hS
 simp [execOp, hx, Instr.next, getObj, Sem.run, hw]
 have hw : w.heap[q]? = _ := St.hd hS
 rcases run_next_at (P := P) w T' q b c c0 se es c hw (hS.froz _ _ hb) (fun x hx => he.clk x hx) hc with ⟨h0, hr⟩ | ⟨e, hel, w1, hw1, hr⟩
 have h00 : rest = [] := by
  have := hp.length_eq
  simp [h0] at this
  exact eq_nil_of_length_eq_zero this.symm
 exact U2 U U hn (by simp [execOp, hx, hr]) (K0 h00)
 have hS1 : St H w1 ((q, .mapIter (some b) c se c0) :: L) := by
  rcases hw1 with rfl | rfl
  exact hS
  exact St.drew hS
 have hS2 : St H (setBlock w1 q (.mapIter (some b) c (se.push e.born) c)) ((q, .mapIter (some b) c (se.push e.born) c) :: L) := hS1.put _
 have hm : (e.key, e.val) ∈ rest.map (kv8 k) := hp.mem_iff.1 (mem_map.2 ⟨e, hel, U⟩)
 obtain ⟨p, hpr, hpe⟩ := mem_map.1 hm
 obtain ⟨i, hi, hpi⟩ := getElem_of_mem hpr
 obtain ⟨rest', hperm⟩ : ∃ rest', rest.Perm (p :: rest') := ⟨rest.take i ++ rest.drop (i + 1), by
  conv => lhs; rw [← take_append_drop i rest, drop_eq_getElem_cons hi, hpi]
  exact perm_middle⟩
 have hkey : e.key = B8 k p.1 := (congrArg Prod.fst hpe).symm
 have hval : e.val = .int .i64 p.2 := (congrArg Prod.snd hpe).symm
 have hleft := (Ws0 (Xi8 he) hel).map (fun e => (e.key, e.val))
 have hr2 := (hleft.symm.trans hp).trans (hperm.map (kv8 k))
 rw [map_cons, map_cons, ← hpe] at hr2
 rw [hkey, hval] at hr
 refine U2 (v := .tuple #[.bool true, B8 k p.1, .int .i64 p.2]) U U hn (by simp only [execOp, hx, Sem.run_bind, hr, Result.andThen_ok]; rfl) (K1 p rest' _ _ hperm (.inr ⟨q, b, es, c, se.push e.born, c, ys, U, U, hb, he, Nat.le_refl _, (perm_cons _).1 hr2, fun p' hp' => ?_⟩) hS2)
 cases hp'
 exact ⟨U, se, e, U, (mem_left hel).1, hkey, hval⟩
theorem Yk7 {x : Operand} {rest : MpT} {p : A8 × Int} (hx : ev f x = v) (h : Zi2 k H v rest (some p) C) (hS : St H w (C ++ L)) (hn : Nat.blt d n = true)
 (K1 : X7 P n ops J r (upd f d (.tuple #[.agg (Z7 k p.1).toArray, .int .i64 p.2])) w) : X7 P n ops J (⟨some d, .entry x, T', pos, af, none⟩ :: r) f w := by
 rcases h with ⟨q, rfl, rfl, rfl, h⟩ | ⟨q, b, es, c, se, c0, ys, rfl, rfl, hb, he, hc, hp, hcur⟩
 cases h
 obtain ⟨rfl, se0, e, rfl, hem, hkey, hval⟩ := hcur p U
 have hw : w.heap[q]? = _ := St.hd hS
 have hr := run_entry_at (P := P) w q b c0 se0 es c0 e hw (hS.froz _ _ hb) hem (Xi8 he)
 rw [hkey, hval] at hr
 refine U2 U U hn ?_ K1
 simp only [execOp, hx, Sem.run_bind]
 unfold B8 at hr
 rw [hr]; rfl
theorem Xd4 {x y z : Operand} {a : A8} {m : Int} (t : Yc3 P T K E k) (hx : ev f x = v) (hy : ev f y = .agg (Z7 k a).toArray) (hz : ev f z = .int .i64 m) (h : Q8 k v xs C) (hS : St H w (C ++ L))
 (Kk : ∀ w' C', Q8 k v (Zc9 xs a m) C' → St H w' (C' ++ L) → X7 P n ops J r f w') : X7 P n ops J (⟨none, .insert T x y z, T', pos, af, none⟩ :: r) f w := by
 obtain ⟨hsrt, b, es, c, ys, rfl, rfl, he, hp⟩ := h
 obtain ⟨es', c', w', hr, hS', he'⟩ := Yr9 (P := P) (w := w) t a m hS he
 refine Ym2 U U (w' := w') ?_ (Kk w' [(b, .map es' c')] ⟨Yo1 hsrt a m, b, es', c', _, U, U, he', (Xh4 he.keys a m).trans (Xp7 hp a m)⟩ hS')
 simp only [execOp, hx, hy, hz, Sem.run_bind]
 unfold B8 at hr
 rw [hr]; rfl
end
def Xt4 (k : IntKind) (t : MpT) (H : FH) (L : OL) : Ending → World → Prop := fun e w' => ∃ v H' C, e = .returned v ∧ Sub H H' ∧ St H' w' (C ++ L) ∧ Q8 k v t C
def Wy8 (k : IntKind) (v0 : Value) (t : MpT) (H : FH) (L : OL) : Ending → World → Prop := fun e w' => ∃ H' C, e = .returned (.tuple #[]) ∧ Sub H H' ∧ St H' w' (C ++ L) ∧ Q8 k v0 t C
def R.mp (k : IntKind) : Zr7 MpT := ⟨fun H v x => N0 k H v x, fun hs h => h.mono hs⟩
def MP.mp (k : IntKind) (t : MpT) : MP := ⟨fun H v => N0 k H v t, fun hs h => h.mono hs, fun _ => []⟩
def FnQ (P : Program) (fv : Value) {α : Type} (ρ : Zr7 α) (p : α → Option Bool) (H : FH) : Prop :=
 ∃ (cid : FuncId) (caps : Array Value), fv = .func (.func cid) #[] caps ∧ (∀ args w, (callFunc cid args).run P w = .ok (.enter cid args) w) ∧
  ∀ (H' : FH) (w : World) (L : OL) (v : Value) (x : α) (b : Bool), Sub H H' → St H' w L → ρ.p H' v x → p x = some b → Calls P cid (#[v] ++ caps) w (T4 (fun v G => R.bool.p G v b) H' L)
theorem FnQ.mono {P : Program} {fv : Value} {α : Type} {ρ : Zr7 α} {p : α → Option Bool} {H H' : FH} (h : FnQ P fv ρ p H) (hs : Sub H H') : FnQ P fv ρ p H' := by
 obtain ⟨cid, caps, h1, h2, h3⟩ := h
 exact ⟨cid, caps, h1, h2, fun H2 w L v x b hs2 => h3 H2 w L v x b (hs.trans hs2)⟩
theorem Wh7 {P : Program} {n : Nat} {f : Fr} {w : World} {H : FH} {L : OL} {ops : Array Oper} {J : Fr → World → Prop} {r : List Oper} {T' : TypeId} {d t : Nat} {pos : String} {af : Array Edge} {ats : Array TypeId}
 {α : Type} {ρ : Zr7 α} {p : α → Option Bool} {y : Operand} {fv v : Value} {a : α} {b : Bool} (hf : FnQ P fv ρ p H) (hx : ev f (.tmp t) = fv) (hy : ev f y = v) (hS : St H w L) (hr : ρ.p H v a) (hb : p a = some b) (hn : Nat.blt d n = true)
 (K : ∀ H' w', Sub H H' → St H' w' L → X7 P n ops J r (upd f d (.bool b)) w') : X7 P n ops J (⟨some d, .call ⟨.value (.tmp t), #[y], ats⟩, T', pos, af, none⟩ :: r) f w := by
 obtain ⟨cid, caps, rfl, hcall, hcl⟩ := hf
 refine Xe3 U U hn (fid := cid) (args := #[v] ++ caps) ?_ (hcl H w L v a b (Sub.refl H) hS hr hb) ?_
 simp [execOp, resolve, hx, hy, Deferred.ofValue, invoke, hcall]
 rintro e w' ⟨v', H', rfl, hs, hS', hv⟩
 exact ⟨_, U, by rw [show v' = .bool b from hv]; exact K H' w' hs hS'⟩
abbrev M8 := Fin 8 → MpT
abbrev V8 := Fin 8 → Value
def M5 (v : V8) : List Value := [v 0, v 1, v 2, v 3, v 4, v 5, v 6, v 7]
def RdV (k : IntKind) (H : FH) (v : V8) (m : M8) : Prop := ∀ i, N0 k H (v i) (m i)
theorem RdV.mono {k : IntKind} {H H' : FH} {v : V8} {m : M8} (hs : Sub H H') (h : RdV k H v m) : RdV k H' v m := fun i => (h i).mono hs
theorem Yt3 {k : IntKind} {H : FH} {v : V8} {m : M8} (h : RdV k H v m) : ∀ u, u ∈ M5 v → u.oneCell' = true := by
 have h1 : ∀ i, (v i).oneCell' = true := fun i => by obtain ⟨b, e⟩ := (h i).val; rw [e]; rfl
 intro u hu
 simp only [M5, mem_cons, not_mem_nil, or_false] at hu
 rcases hu with rfl | rfl | rfl | rfl | rfl | rfl | rfl | rfl <;> exact h1 _
def tyV (k : IntKind) : Ty M8 :=
 ⟨8, fun H cs m => ∃ v, cs = M5 v ∧ RdV k H v m, fun ⟨_, h, _⟩ => by rw [h]; rfl, fun hs ⟨v, h, hr⟩ => ⟨v, h, hr.mono hs⟩,
  fun ⟨v, h, hr⟩ u hu => Yt3 hr u (h ▸ hu)⟩
def Zp8 : V8 := fun _ => .map none
theorem RdV.nil {k : IntKind} {H : FH} : RdV k H Zp8 (fun _ => []) := fun _ => N0.nil
def Wl9 (v : V8) (i : Int) : Value := if h : i.toNat < 8 then v ⟨i.toNat, h⟩ else .map none
def Yf6 (m : M8) (i : Int) : MpT := if h : i.toNat < 8 then m ⟨i.toNat, h⟩ else []
def Xt9 (v : V8) (i : Int) (x : Value) : V8 := fun j => if j.1 = i.toNat then x else v j
def Xn2 (m : M8) (i : Int) (x : MpT) : M8 := fun j => if j.1 = i.toNat then x else m j
theorem RdV.at {k : IntKind} {H : FH} {v : V8} {m : M8} (h : RdV k H v m) (i : Int) : N0 k H (Wl9 v i) (Yf6 m i) := by
 unfold Wl9 Yf6
 split
 exact h _
 exact N0.nil
theorem RdV.upd {k : IntKind} {H : FH} {v : V8} {m : M8} (h : RdV k H v m) (i : Int) {x : Value} {t : MpT} (hx : N0 k H x t) : RdV k H (Xt9 v i x) (Xn2 m i t) := by
 intro j
 unfold Xt9 Xn2
 by_cases e : j.1 = i.toNat
 rw [if_pos e, if_pos e]; exact hx
 rw [if_neg e, if_neg e]; exact h j
theorem Wv4 {v : V8} {i : Int} (h0 : 0 ≤ i) (h8 : i < 8) : (M5 v).toArray[0 + i.toNat * 1]? = some (Wl9 v i) := by
 obtain ⟨j, rfl⟩ := Int.eq_ofNat_of_zero_le h0
 have : j < 8 := by omega
 match j, this with
 | 0, _ | 1, _ | 2, _ | 3, _ | 4, _ | 5, _ | 6, _ | 7, _ => rfl
theorem Wx7 {v : V8} {i : Int} {x : Value} (h0 : 0 ≤ i) (h8 : i < 8) : B6 (M5 v).toArray (0 + i.toNat * 1) [x] = (M5 (Xt9 v i x)).toArray := by
 obtain ⟨j, rfl⟩ := Int.eq_ofNat_of_zero_le h0
 have : j < 8 := by omega
 match j, this with
 | 0, _ | 1, _ | 2, _ | 3, _ | 4, _ | 5, _ | 6, _ | 7, _ => rfl
def Xn1 : MpT → Bool
 | [] => true
 | [_] => true
 | p :: q :: l => bef p.1 q.1 && Xn1 (q :: l)
theorem Xd3 : ∀ {xs : MpT}, Xn1 xs = true ↔ Srt xs
 | [] => by simp [Xn1, Srt]
 | [p] => by simp [Xn1, Srt]
 | p :: q :: l => by
  rw [Xn1, Bool.and_eq_true, Xd3 (xs := q :: l)]
  constructor
  rintro ⟨h1, h2⟩
  refine pairwise_cons.2 ⟨fun r hr => ?_, h2⟩
  rcases mem_cons.1 hr with rfl | hr
  exact h1
  exact Zq6 h1 ((pairwise_cons.1 h2).1 r hr)
  intro h
  have := pairwise_cons.1 h
  exact ⟨this.1 q (mem_cons_self ..), this.2⟩
def nfm (xs : MpT) : Bool := Xn1 xs && xs.all fun p => decide (1 ≤ p.2 ∧ p.2 ≤ 10006)
theorem I5 {xs : MpT} (h : nfm xs = true) : Srt xs := Xd3.1 (Bool.and_eq_true _ _ ▸ h).1
theorem Yd1 {xs : MpT} (h : nfm xs = true) : ∀ p, p ∈ xs → 1 ≤ p.2 ∧ p.2 ≤ 10006 := by
 intro p hp
 unfold nfm at h
 rw [Bool.and_eq_true] at h
 simpa using all_eq_true.1 h.2 p hp
theorem Yi7 {xs : MpT} (h1 : Srt xs) (h2 : ∀ p, p ∈ xs → 1 ≤ p.2 ∧ p.2 ≤ 10006) : nfm xs = true := by
 unfold nfm
 rw [Bool.and_eq_true]
 exact ⟨Xd3.2 h1, all_eq_true.2 fun p hp => by simpa using h2 p hp⟩
def FH.new (G H : FH) : FH := ⟨fun b => if H b = none ∧ H.memo b = none then G b else none, fun _ => none, G.base⟩
theorem A9 {G H : FH} {b : Nat} {o : Obj} : (G.new H) b = some o ↔ G b = some o ∧ H b = none ∧ H.memo b = none := by
 show (if H b = none ∧ H.memo b = none then G b else none) = some o ↔ _
 by_cases h : H b = none ∧ H.memo b = none
 rw [if_pos h]; exact ⟨fun e => ⟨e, h⟩, fun e => e.1⟩
 rw [if_neg h]; exact ⟨fun e => (by cases e), fun e => absurd e.2 h⟩
theorem Zw4 (G H : FH) : Sub (G.new H) G := ⟨fun b o h => (A9.1 h).1, fun b i h => (by cases h), rfl⟩
theorem Yk8 {G G' H : FH} (h : Sub G G') : Sub (G.new H) (G'.new H) := ⟨fun b o e => A9.2 ⟨h.1 _ _ (A9.1 e).1, (A9.1 e).2⟩, fun b i e => (by cases e), h.2.2⟩
theorem Yo2 {G H H' : FH} (h : Sub H H') : Sub (G.new H') (G.new H) := by
 refine ⟨fun b o e => ?_, fun b i e => (by cases e), rfl⟩
 obtain ⟨h1, h2, h3⟩ := A9.1 e
 refine A9.2 ⟨h1, ?_, ?_⟩
 cases hb : H b with
 | none => rfl
 | some p => rw [h.1 _ _ hb] at h2; cases h2
 cases hb : H.memo b with
 | none => rfl
 | some p => obtain ⟨_, e, _⟩ := h.2.1 _ _ hb; rw [e] at h3; cases h3
def Yx7 {α : Type} (H0 : FH) (τ : Ty α) : Ty α := ⟨τ.size, fun H cs x => τ.rel (H.new H0) cs x, τ.len, fun h hr => τ.mono (Yk8 h) hr, τ.one⟩
theorem St.noneS {H H0 : FH} {w : World} {L : OL} {b : Nat} {o : Obj} (h : St H w ((b, o) :: L)) (hs : Sub H0 H) : H0 b = Option.none ∧ H0.memo b = Option.none := by
 have h1 := h.none
 have h2 := h.noneM
 refine ⟨?_, ?_⟩
 cases hb : H0 b with
 | none => rfl
 | some p => rw [hs.1 _ _ hb] at h1; cases h1
 cases hb : H0.memo b with
 | none => rfl
 | some p => obtain ⟨_, e, _⟩ := hs.2.1 _ _ hb; rw [e] at h2; cases h2
theorem W0.freezeF {α : Type} {τ : Ty α} {E : TypeId} {H H0 : FH} {v : Value} {xs : List α} {C L : OL} {w : World} (h : W0 (Yx7 H0 τ) E H v xs C) (hS : St H w (C ++ L)) (hs : Sub H0 H) :
 ∃ H', Sub H H' ∧ St H' w L ∧ Y3 τ (H'.new H0) v xs := by
 rcases h with ⟨rfl, rfl, rfl⟩ | ⟨b, c, cs, rfl, h1, h2, h3, rfl, h5⟩
 exact ⟨H, Sub.refl _, hS, none, 0, ⟨U, by simp⟩, .inl U⟩
 have hS' : St H w ((b, .cells cs E) :: L) := hS
 have Z4 := Sub.add (o := .cells cs E) hS'.none
 refine ⟨_, Z4, hS'.freeze, _, c, ⟨U, by simp only [maxLen] at h2; omega⟩, .inr ⟨b, 0, cs, (E, 0, 0), U, A9.2 ⟨FH.add_self .., hS'.noneS hs⟩, fun i x hx => ?_⟩⟩
 obtain ⟨ecs, hr, hj⟩ := h5 i x hx
 exact ⟨ecs, τ.mono (Yk8 Z4) hr, fun j hj' => by rw [Nat.zero_add]; exact hj j hj'⟩
def RdF {α : Type} (τ : Ty α) (H0 G : FH) (v : Value) (xs : List α) : Prop := Y3 τ (G.new H0) v xs
theorem RdF.mono {α : Type} {τ : Ty α} {H0 G G' : FH} {v : Value} {xs : List α} (h : RdF τ H0 G v xs) (hs : Sub G G') : RdF τ H0 G' v xs := Y3.mono (Yk8 hs) h
theorem Y3.old {α : Type} {τ : Ty α} {H0 G : FH} {v : Value} {xs : List α} (h : Y3 τ (G.new H0) v xs) : Y3 τ G v xs := Y3.mono (Zw4 _ _) h
def Zr7.fr {α : Type} (H0 : FH) (ρ : Zr7 α) : Zr7 α := ⟨fun G v x => ρ.p (G.new H0) v x, fun hs h => ρ.mono (Yk8 hs) h⟩
def Zn3 : Value → List Nat
 | .slice (some a) (_ + 1) _ => [a.block]
 | _ => []
def Zr1 (cs : List Value) : List Nat := cs.flatMap Zn3
def Zw1 {α : Type} (τ : Ty α) : Ty (α × List Nat) :=
 ⟨τ.size, fun H cs p => τ.rel H cs p.1 ∧ Zr1 cs = p.2, fun h => τ.len h.1, fun hs h => ⟨τ.mono hs h.1, h.2⟩, fun h => τ.one h.1⟩
def Ye2 {α : Type} (τ : Ty α) : Prop := ∀ (H : FH) cs x, τ.rel H cs x → ∀ b, b ∈ Zr1 cs → H b ≠ none
theorem Yi1 {α : Type} (τ : Ty α) : Ye2 (X3 τ) := by
 rintro H cs x ⟨v, rfl, a, c, ⟨hv, _⟩, h⟩ b hb
 subst hv
 rcases h with rfl | ⟨b', o, cs', E, rfl, h, _⟩
 cases a <;> simp [Zr1, Zn3] at hb
 cases hx : x.length with
 | zero => rw [hx] at hb; simp [Zr1, Zn3] at hb
 | succ n =>
  rw [hx] at hb
  simp [Zr1, Zn3] at hb
  subst hb
  rw [h]; simp
theorem Xr7 {α : Type} {τ : Ty α} (H0 : FH) (h : Ye2 τ) : Ye2 (Yx7 H0 τ) := by
 intro H cs x hr b hb hn
 refine h (H.new H0) cs x hr b hb ?_
 cases hq : (H.new H0) b with
 | none => rfl
 | some o => have := (A9.1 hq).1; rw [hn] at this; cases this
def Ze1 {α : Type} (τ : Ty α) (E : TypeId) (H : FH) (v : Value) (xs : List α) (C : OL) (X : List Nat) : Prop :=
 ∃ bss : List (List Nat), bss.length = xs.length ∧ W0 (Zw1 τ) E H v (xs.zip bss) C ∧ (bss.flatten ++ X).Nodup ∧ ∀ b, b ∈ X → H b ≠ none
theorem We7 {α β : Type} {xs : List α} {bs : List β} (hl : bs.length = xs.length) {i : Nat} {x : α} (h : xs[i]? = some x) : ∃ b, (xs.zip bs)[i]? = some (x, b) := by
 have hi : i < xs.length := (List.getElem?_eq_some_iff.1 h).1
 refine ⟨bs[i]'(by omega), ?_⟩
 rw [getElem?_zip_eq_some]
 exact ⟨h, by simp [hl, hi]⟩
theorem Ze1.own {α : Type} {τ : Ty α} {E : TypeId} {H : FH} {v : Value} {xs : List α} {C : OL} {X : List Nat} (h : Ze1 τ E H v xs C X) : W0 τ E H v xs C := by
 obtain ⟨bss, hl, ho, _⟩ := h
 rcases ho with ⟨h1, h2, h3⟩ | ⟨b, c, cs, h1, h2, h3, h4, h5, h6⟩
 refine .inl ⟨h1, ?_, h3⟩
 have := congrArg length h2
 simp [hl] at this
 exact this
 have hz : (xs.zip bss).length = xs.length := by simp [hl]
 rw [hz] at h1 h2
 refine .inr ⟨b, c, cs, h1, h2, h3, h4, h5, fun i x hx => ?_⟩
 obtain ⟨bb, hb⟩ := We7 hl hx
 obtain ⟨ecs, hr, hj⟩ := h6 i _ hb
 exact ⟨ecs, hr.1, hj⟩
theorem Ze1.mono {α : Type} {τ : Ty α} {E : TypeId} {H H' : FH} {v : Value} {xs : List α} {C : OL} {X : List Nat} (h : Ze1 τ E H v xs C X) (hs : Sub H H') : Ze1 τ E H' v xs C X := by
 obtain ⟨bss, hl, ho, hn, hx⟩ := h
 refine ⟨bss, hl, ho.mono hs, hn, fun b hb e => ?_⟩
 cases hq : H b with
 | none => exact hx b hb hq
 | some o => rw [hs.1 _ _ hq] at e; cases e
theorem Ze1.nil {α : Type} (τ : Ty α) (E : TypeId) (H : FH) {X : List Nat} (hn : X.Nodup) (hx : ∀ b, b ∈ X → H b ≠ none) : Ze1 τ E H (.slice none 0 0) [] [] X :=
 ⟨[], U, W0.nil _ _ _, by simpa using hn, hx⟩
theorem Yp5 {α : Type} {τ : Ty α} (hR : Ye2 τ) {E : TypeId} {H : FH} {v : Value} {xs : List α} {C : OL} {bss : List (List Nat)} (hl : bss.length = xs.length) (ho : W0 (Zw1 τ) E H v (xs.zip bss) C) :
 ∀ b, b ∈ bss.flatten → H b ≠ none := by
 intro b hb
 obtain ⟨bs, hbs, hb⟩ := mem_flatten.1 hb
 obtain ⟨i, hi, rfl⟩ := getElem_of_mem hbs
 rcases ho with ⟨_, h2, _⟩ | ⟨_, c, cs, _, _, _, _, _, h6⟩
 have := congrArg length h2
 simp [hl] at this
 subst this
 simp at hl; subst hl; simp at hi
 obtain ⟨ecs, hr, _⟩ := h6 i (xs[i]'(by omega), bss[i]) (by
  rw [getElem?_zip_eq_some]
  exact ⟨by simp, by simp [hi]⟩)
 exact hR H ecs _ hr.1 b (by rw [hr.2]; exact hb)
theorem Ze1.keep {α : Type} {τ : Ty α} (hR : Ye2 τ) {E : TypeId} {H H' : FH} {v : Value} {xs : List α} {C : OL} {X R : List Nat} (h : Ze1 τ E H v xs C X) (hs : Sub H H')
 (h0 : ∀ b, b ∈ R → H b = none) (h1 : ∀ b, b ∈ R → H' b ≠ none) (hn : R.Nodup) : Ze1 τ E H' v xs C (R ++ X) := by
 obtain ⟨bss, hl, ho, hnd, hx⟩ := h
 have hr := Yp5 hR hl ho
 have hup : ∀ b, H b ≠ none → H' b ≠ none := fun b hb e => by
  cases hq : H b with
  | none => exact hb hq
  | some o => rw [hs.1 _ _ hq] at e; cases e
 refine ⟨bss, hl, ho.mono hs, ?_, fun b hb => ?_⟩
 rw [nodup_append] at hnd ⊢
 obtain ⟨n1, n2, n3⟩ := hnd
 refine ⟨n1, ?_, ?_⟩
 rw [nodup_append]
 refine ⟨hn, n2, fun a ha b hb e => ?_⟩
 subst e
 exact hx a hb (h0 a ha)
 intro a ha b hb e
 subst e
 rcases mem_append.1 hb with hb | hb
 exact hr a ha (h0 a hb)
 exact n3 a ha a hb U
 rcases mem_append.1 hb with hb | hb
 exact h1 b hb
 exact hup b (hx b hb)
theorem Wb9 {bss : List (List Nat)} {i : Nat} (hi : i < bss.length) {R Y : List Nat} (h : (bss.flatten ++ (R ++ Y)).Nodup) : ((bss.set i R).flatten ++ Y).Nodup := by
 have e1 : bss = bss.take i ++ bss[i] :: bss.drop (i + 1) := by rw [getElem_cons_drop, take_append_drop]
 have e2 : bss.set i R = bss.take i ++ R :: bss.drop (i + 1) := set_eq_take_append_cons_drop .. |>.trans (if_pos hi)
 rw [e2, flatten_append, flatten_cons]
 rw [e1, flatten_append, flatten_cons] at h
 generalize (bss.take i).flatten = A at h ⊢
 generalize (bss.drop (i + 1)).flatten = B at h ⊢
 generalize bss[i] = b at h
 have hp : ((A ++ (R ++ B)) ++ Y).Perm ((A ++ B) ++ (R ++ Y)) := by
  rw [append_assoc, append_assoc, append_assoc]
  refine List.Perm.append_left A ?_
  rw [← append_assoc, ← append_assoc]
  exact perm_append_comm.append_right Y
 refine hp.nodup_iff.2 (h.sublist (List.Sublist.append ?_ (List.Sublist.refl _)))
 exact List.Sublist.append (List.Sublist.refl _) (sublist_append_right _ _)
theorem Vb8 {α β : Type} (xs : List α) (ys : List β) (i : Nat) (x : α) (y : β) (hl : ys.length = xs.length) : (xs.zip ys).set i (x, y) = (xs.set i x).zip (ys.set i y) := by
 apply ext_getElem?
 intro j
 rw [getElem?_set]
 by_cases e : i = j
 subst e
 rw [if_pos U]
 by_cases hi : i < xs.length
 rw [if_pos (by simp [hl]; exact hi), Eq.comm, getElem?_zip_eq_some]
 exact ⟨by simp [hi], by simp [hl, hi]⟩
 rw [if_neg (by simp [hl]; omega), Eq.comm, getElem?_eq_none]
 simp [hl]; omega
 rw [if_neg e]
 apply Option.ext
 intro p
 rw [getElem?_zip_eq_some, getElem?_zip_eq_some, getElem?_set_ne e, getElem?_set_ne e]
section
variable {P : Program} {n : Nat} {ops : Array Oper} {J : Fr → World → Prop} {r : List Oper} {f : Fr} {w : World} {d : Nat} {T : TypeId} {pos : String} {af : Array Edge} {H : FH} {L C : OL}
variable {α : Type} {τ : Ty α}
theorem Wc3 {E' X' T' : TypeId} {x y : Operand} {v u : Value} {xs : List α} (e : α) {i : Int} {b m c s : Nat} {a : Bool} {R Y : List Nat} (hs : τ.size = s) (t : TyI P T' a s) (hv : v = .slice (some ⟨b, 0, none⟩) m c)
 (ho : Ze1 τ E' H v xs C (R ++ Y)) (hS : St H w (C ++ L)) (hx : ev f x = .pointer (some ⟨b, i.toNat * s, none⟩)) (hy : ev f y = u) (h0 : 0 ≤ i) (hm : i < xs.length) (hrel : τ.rel H u.cells.toList e) (hroot : Zr1 u.cells.toList = R)
 (K : ∀ w' C', Ze1 τ E' H v (xs.set i.toNat e) C' Y → St H w' (C' ++ L) → X7 P n ops J r f w') : X7 P n ops J (⟨none, .store T' x y, X', pos, af, none⟩ :: r) f w := by
 obtain ⟨bss, hl, ho, hnd, hx'⟩ := ho
 refine Za9 (τ := Zw1 τ) (e, R) hs t hv ho hS hx hy h0 (by simp [hl]; omega) ⟨hrel, hroot⟩ (fun w' C' ho' hS' => K w' C' ⟨bss.set i.toNat R, by simp [hl], ?_, Wb9 (by omega) hnd, fun b hb => hx' b (mem_append_right _ hb)⟩ hS')
 rw [← Vb8 _ _ _ _ _ hl]; exact ho'
theorem Vb5 {X E T' : TypeId} {s bytes : Nat} {z : Value} {x y : Operand} {k k' : IntKind} {m : Int} (x0 : α) (t : ApI P X E s bytes z) (hs : τ.size = s) (hx : ev f x = .int k m) (hy : ev f y = .int k' m) (hz : ∀ H, τ.rel H z.cells.toList x0)
 (hz2 : Zr1 z.cells.toList = []) (h0 : 0 ≤ m) (hb : m ≤ 1099511627776) (hS : St H w L) {Y : List Nat} (hY : Y.Nodup) (hYH : ∀ b, b ∈ Y → H b ≠ none) (hn : Nat.blt d n = true)
 (K : ∀ v w' C', Ze1 τ E H v (replicate m.toNat x0) C' Y → St H w' (C' ++ L) → X7 P n ops J r (upd f d v) w') : X7 P n ops J (⟨some d, .makeSlice X x y, T', pos, af, none⟩ :: r) f w := by
 refine Zz4 (τ := Zw1 τ) (x0, []) t hs hx hy (fun H => ⟨hz H, hz2⟩) h0 hb hS hn (fun v w' C' ho hS' => K v w' C' ⟨replicate m.toNat [], by simp, ?_, by simpa using hY, hYH⟩ hS')
 rw [zip_replicate']; exact ho
end
theorem Yh1 (v : Value) : (Zr1 [v]).Nodup := by
 unfold Zr1 Zn3
 cases v <;> simp
 rename_i a n _
 cases a <;> cases n <;> simp
theorem Y3.rootsIn {α : Type} {τ : Ty α} {H : FH} {v : Value} {xs : List α} (h : Y3 τ H v xs) : ∀ b, b ∈ Zr1 [v] → H b ≠ none := Yi1 τ H [v] xs ⟨v, U, h⟩
theorem RdF.rootsOut {α : Type} {τ : Ty α} {H0 G : FH} {v : Value} {xs : List α} (h : Y3 τ (G.new H0) v xs) : ∀ b, b ∈ Zr1 [v] → H0 b = none := by
 intro b hb
 have := h.rootsIn b hb
 cases hq : (G.new H0) b with
 | none => exact absurd hq this
 | some o => exact (A9.1 hq).2.1
def RdN {α : Type} (τ : Ty α) (H0 G : FH) (v : Value) (xs : List α) (X : List Nat) : Prop :=
 ∃ bss : List (List Nat), bss.length = xs.length ∧ Y3 (Zw1 τ) (G.new H0) v (xs.zip bss) ∧ (Zn3 v ++ (bss.flatten ++ X)).Nodup
theorem Wn6 (b o n c : Nat) : (Zn3 (.slice (some ⟨b, o, none⟩) n c)).Sublist [b] := by
 cases n with
 | zero => exact nil_sublist _
 | succ n => exact List.Sublist.refl _
theorem Ze1.freezeN {α : Type} {τ : Ty α} {E : TypeId} {H H0 : FH} {v : Value} {xs : List α} {C L : OL} {X : List Nat} {w : World} (hR : Ye2 τ) (h : Ze1 (Yx7 H0 τ) E H v xs C X) (hS : St H w (C ++ L)) (hs : Sub H0 H) :
 ∃ H', Sub H H' ∧ St H' w L ∧ RdN τ H0 H' v xs X := by
 obtain ⟨bss, hl, ho, hnd, hx⟩ := h
 have hr := Yp5 (Xr7 H0 hR) hl ho
 obtain ⟨H', Z4, hS', hf⟩ := W0.freezeF (τ := Zw1 τ) (H0 := H0) (show W0 (Yx7 H0 (Zw1 τ)) E H v (xs.zip bss) C from ho) hS hs
 refine ⟨H', Z4, hS', bss, hl, hf, ?_⟩
 rcases ho with ⟨rfl, _, _⟩ | ⟨b, c, cs, rfl, h1, h2, h3, rfl, h5⟩
 simpa [Zn3] using hnd
 have hb : H b = none := St.none (L := L) (o := .cells cs E) hS
 refine List.Nodup.sublist (l₂ := [b] ++ (bss.flatten ++ X)) (List.Sublist.append (Wn6 _ _ _ _) (List.Sublist.refl _)) ?_
 rw [nodup_append]
 refine ⟨by simp, hnd, fun a ha c hc e => ?_⟩
 cases mem_singleton.1 ha
 subst e
 rcases mem_append.1 hc with hc | hc
 exact hr _ hc hb
 exact hx _ hc hb
theorem RdN.old {α : Type} {τ : Ty α} {H0 G : FH} {v : Value} {xs : List α} {X : List Nat} (h : RdN τ H0 G v xs X) : Y3 τ (G.new H0) v xs := by
 obtain ⟨bss, hl, ⟨a, c, ⟨hv, hlen⟩, h⟩, _⟩ := h
 have hz : (xs.zip bss).length = xs.length := by simp [hl]
 rw [hz] at hv hlen
 refine ⟨a, c, ⟨hv, hlen⟩, ?_⟩
 rcases h with h2 | ⟨b, o, cs, E, h1, h2, h3⟩
 refine .inl ?_
 have := congrArg length h2
 simp [hl] at this
 exact this
 refine .inr ⟨b, o, cs, E, h1, h2, fun i x hx => ?_⟩
 obtain ⟨bb, hb⟩ := We7 hl hx
 obtain ⟨ecs, hr, hj⟩ := h3 i _ hb
 exact ⟨ecs, hr.1, hj⟩
theorem RdN.mono {α : Type} {τ : Ty α} {H0 G G' : FH} {v : Value} {xs : List α} {X : List Nat} (h : RdN τ H0 G v xs X) (hs : Sub G G') : RdN τ H0 G' v xs X := by
 obtain ⟨bss, hl, h, hn⟩ := h
 exact ⟨bss, hl, h.mono (Yk8 hs), hn⟩
theorem RdN.nil {α : Type} {τ : Ty α} {H0 G : FH} {X : List Nat} (hX : X.Nodup) : RdN τ H0 G (.slice none 0 0) ([] : List α) X :=
 ⟨[], U, Y3.nil, by simpa [Zn3] using hX⟩
theorem Ww3 {α : Type} {τ : Ty α} (hR : Ye2 τ) {H : FH} {v : Value} {xs : List α} {bss : List (List Nat)} (hl : bss.length = xs.length) (ho : Y3 (Zw1 τ) H v (xs.zip bss)) :
 ∀ b, b ∈ Zn3 v ++ bss.flatten → H b ≠ none := by
 intro b hb
 rcases mem_append.1 hb with hb | hb
 exact Yi1 (Zw1 τ) H [v] _ ⟨v, U, ho⟩ b (by simpa [Zr1] using hb)
 obtain ⟨bs, hbs, hb⟩ := mem_flatten.1 hb
 obtain ⟨i, hi, rfl⟩ := getElem_of_mem hbs
 obtain ⟨a, c, _, ho⟩ := ho
 rcases ho with h2 | ⟨b', o, cs, E, _, _, h6⟩
 have := congrArg length h2
 simp [hl] at this
 subst this
 simp at hl; subst hl; simp at hi
 obtain ⟨ecs, hr, _⟩ := h6 i (xs[i]'(by omega), bss[i]) (by
  rw [getElem?_zip_eq_some]
  exact ⟨by simp, by simp [hi]⟩)
 exact hR H ecs _ hr.1 b (by rw [hr.2]; exact hb)
theorem RdN.keepX {α : Type} {τ : Ty α} (hR : Ye2 τ) {H0 Hc G : FH} {v : Value} {xs : List α} {X : List Nat} (h : RdN τ Hc G v xs []) (hs : Sub H0 Hc) (hX : X.Nodup) (hx : ∀ b, b ∈ X → Hc b ≠ none) :
 RdN τ H0 G v xs X := by
 obtain ⟨bss, hl, h, hn⟩ := h
 have hr := Ww3 hR hl h
 refine ⟨bss, hl, h.mono (Yo2 hs), ?_⟩
 rw [append_nil] at hn
 rw [← append_assoc, nodup_append]
 refine ⟨hn, hX, fun a ha b hb e => ?_⟩
 subst e
 have := hr a ha
 cases hq : (G.new Hc) a with
 | none => exact this hq
 | some o => exact hx a hb (A9.1 hq).2.1
def Yc7 (H G : FH) (v : Value) (x : F6) : Prop := ∃ vd vi, v = .agg #[vd, vi] ∧ RdF (Y4 .i64) H G vd x.1 ∧ RdN Yi2 H G vi x.2 (Zr1 [vd] ++ [])
theorem Yc7.old {H G : FH} {v : Value} {x : F6} (h : Yc7 H G v x) : ∃ vd vi, v = .agg #[vd, vi] ∧ Y3 (Y4 .i64) (G.new H) vd x.1 ∧ Y3 Yi2 (G.new H) vi x.2 :=
 let ⟨vd, vi, h1, h2, h3⟩ := h; ⟨vd, vi, h1, h2, h3.old⟩
def FH.minus (H : FH) (bs : List Nat) : FH := ⟨fun b => if b ∈ bs then none else H b, fun _ => none, H.base⟩
theorem Zy7 {H : FH} {bs : List Nat} {b : Nat} {o : Obj} : (H.minus bs) b = some o ↔ b ∉ bs ∧ H b = some o := by
 show (if b ∈ bs then none else H b) = some o ↔ _
 by_cases h : b ∈ bs
 rw [if_pos h]; exact ⟨fun e => (by cases e), fun e => absurd h e.1⟩
 rw [if_neg h]; exact ⟨fun e => ⟨h, e⟩, fun e => e.2⟩
theorem St.unfreeze {H : FH} {w : World} {L : OL} (h : St H w L) (os : OL) (hos : ∀ x, x ∈ os → H x.1 = some x.2) (hn : (os.map Prod.fst).Nodup) : St (H.minus (os.map Prod.fst)) w (os ++ L) := by
 refine ⟨fun b o hb => h.froz b o (Zy7.1 hb).2, fun b I hb => (by cases hb), h.rest, fun b o hb hl => h.nofz b o (Zy7.1 hb).2 hl, fun x hx => ?_, ?_, fun x hx => ⟨?_, rfl⟩⟩
 rcases mem_append.1 hx with hx | hx
 exact h.froz _ _ (hos x hx)
 exact h.own x hx
 rw [map_append, nodup_append]
 refine ⟨hn, h.nodup, fun a ha b hb e => ?_⟩
 subst e
 obtain ⟨x, hx, rfl⟩ := mem_map.1 ha
 obtain ⟨y, hy, e⟩ := mem_map.1 hb
 have h1 := hos x hx
 have h2 := (h.apart y hy).1
 rw [e, h1] at h2; cases h2
 show (if x.1 ∈ os.map Prod.fst then Option.none else H x.1) = Option.none
 split
 rfl
 rename_i hn'
 rcases mem_append.1 hx with hx | hx
 exact absurd (mem_map.2 ⟨x, hx, U⟩) hn'
 exact (h.apart x hx).1
theorem Xp2 {H0 G : FH} {bs : List Nat} (hs : Sub H0 G) (hm : ∀ b, H0.memo b = none) (hb : ∀ b, b ∈ bs → H0 b = none) : Sub H0 (G.minus bs) := by
 refine ⟨fun b o h => Zy7.2 ⟨fun hin => ?_, hs.1 b o h⟩, fun b i h => ?_, hs.2.2⟩
 rw [hb b hin] at h; cases h
 rw [hm b] at h; cases h
def Yu7 (s : Nat) (v : Value) (m : Nat) (C : OL) : Prop :=
 (∃ a c, v = .slice a m c ∧ m = 0 ∧ C = []) ∨ ∃ b o c cs E, v = .slice (some ⟨b, o, none⟩) m c ∧ (m ≤ c ∧ (0 < m → o + m * s ≤ cs.size)) ∧ C = [(b, .cells cs E)]
theorem Yu7.room {s : Nat} {v : Value} {m : Nat} {C : OL} (h : Yu7 s v m C) {a : Option Addr} {c : Nat} (hv : v = .slice a m c) : m ≤ c := by
 rcases h with ⟨_, _, _, rfl, _⟩ | ⟨b, o, c', cs, E, h1, h2, _⟩
 exact Nat.zero_le _
 rw [h1] at hv; cases hv; exact h2.1
def Yd8 (mv : Nat → Value) (o : Nat) (cs : Array Value) (n : Nat) : Prop := ∀ i, i < n → cs[o + i]? = some (mv i)
theorem Yd8.nil {mv : Nat → Value} {o : Nat} {cs : Array Value} : Yd8 mv o cs 0 := fun i h => by omega
theorem Yd8.step {mv : Nat → Value} {o : Nat} {cs : Array Value} {n : Nat} (h : Yd8 mv o cs n) (hl : o + n < cs.size) : Yd8 mv o (cs.setIfInBounds (o + n) (mv n)) (n + 1) := by
 intro i hi
 rw [Array.getElem?_setIfInBounds]
 by_cases e : o + n = o + i
 rw [if_pos e, if_pos (by omega)]
 have : n = i := by omega
 rw [this]
 rw [if_neg e]; exact h i (by omega)
def mkI (k : Int) (m : Nat) : List Int := (range m).map fun (i : Nat) => k + i
def mkT (k : Int) (m : Nat) : Zk1 := (range m).map fun (i : Nat) => ((fun j : Fin 8 => u8.wrap (k + 9 * i + j.val)), k + 9 * i + 8)
def mvI (k : Int) (i : Nat) : Value := .int .i64 (k + i)
def mvT (k : Int) (i : Nat) : Value := if i % 9 = 8 then .int .i64 (k + i) else .int .u8 (u8.wrap (k + i))
theorem Xl9 (k : Int) (m : Nat) : (mkI k m).length = m := by simp [mkI]
theorem Xa9 (k : Int) (m : Nat) : (mkT k m).length = m := by simp [mkT]
theorem Vc9 {k : Int} {m i : Nat} {x : Int} (h : (mkI k m)[i]? = some x) : i < m ∧ x = k + i := by
 have hi : i < m := by have := (List.getElem?_eq_some_iff.1 h).1; rwa [Xl9] at this
 simp [mkI, hi] at h
 exact ⟨hi, h.symm⟩
theorem Ve7 {k : Int} {m i : Nat} {x : Zb0} (h : (mkT k m)[i]? = some x) : i < m ∧ x = ((fun j : Fin 8 => u8.wrap (k + 9 * i + j.val)), k + 9 * i + 8) := by
 have hi : i < m := by have := (List.getElem?_eq_some_iff.1 h).1; rwa [Xa9] at this
 simp [mkT, hi] at h
 exact ⟨hi, h.symm⟩
theorem Wc2 {H : FH} {w : World} {L : OL} {b o c m : Nat} {cs : Array Value} {E : TypeId} {k : Int} (hS : St H w ((b, .cells cs E) :: L)) (hm : Yd8 (mvI k) o cs m) (hb : m ≤ 9223372036854775807) (hr : m ≤ c) :
 ∃ H', Sub H H' ∧ St H' w L ∧ Y3 (Y4 .i64) H' (.slice (some ⟨b, o, none⟩) m c) (mkI k m) := by
 refine ⟨_, Sub.add (o := .cells cs E) hS.none, hS.freeze, some ⟨b, o, none⟩, c, ⟨by rw [Xl9], by rw [Xl9]; exact ⟨hb, hr⟩⟩, .inr ⟨b, o, cs, (E, 0, 0), U, FH.add_self .., fun i x hx => ?_⟩⟩
 obtain ⟨hi, rfl⟩ := Vc9 hx
 refine ⟨[.int .i64 (k + i)], U, fun j hj => ?_⟩
 have hj : j < 1 := hj
 have : j = 0 := by omega
 subst this
 show cs[o + i * 1 + 0]? = _
 rw [Nat.mul_one, Nat.add_zero]
 exact hm i hi
theorem Xw1 {H : FH} {w : World} {L : OL} {b o c m : Nat} {cs : Array Value} {E : TypeId} {k : Int} (hS : St H w ((b, .cells cs E) :: L)) (hm : Yd8 (mvT k) o cs (m * 9)) (hb : m ≤ 9223372036854775807) (hr : m ≤ c) :
 ∃ H', Sub H H' ∧ St H' w L ∧ Y3 Ye4 H' (.slice (some ⟨b, o, none⟩) m c) (mkT k m) := by
 refine ⟨_, Sub.add (o := .cells cs E) hS.none, hS.freeze, some ⟨b, o, none⟩, c, ⟨by rw [Xa9], by rw [Xa9]; exact ⟨hb, hr⟩⟩, .inr ⟨b, o, cs, (E, 0, 0), U, FH.add_self .., fun i x hx => ?_⟩⟩
 obtain ⟨hi, rfl⟩ := Ve7 hx
 refine ⟨Z7 .u8 (fun j : Fin 8 => u8.wrap (k + 9 * i + j.val)) ++ [Value.int .i64 (k + 9 * i + 8)], ⟨Z7 .u8 (fun j : Fin 8 => u8.wrap (k + 9 * i + j.val)), [Value.int .i64 (k + 9 * i + 8)], U, U, U⟩, fun j hj => ?_⟩
 have hj : j < 9 := hj
 show cs[o + i * 9 + j]? = _
 rw [Nat.add_assoc, hm (i * 9 + j) (by omega)]
 unfold mvT
 have e1 : (i * 9 + j) % 9 = j := by omega
 have e2 : k + ((i * 9 + j : Nat) : Int) = k + 9 * i + j := by omega
 rw [e1, e2]
 match j, hj with
 | 0, _ | 1, _ | 2, _ | 3, _ | 4, _ | 5, _ | 6, _ | 7, _ => rfl
 | 8, _ => rfl
theorem Y3.noInts {H : FH} {v : Value} {a : Option Addr} {c : Nat} {k : Int} (h : v = .slice a 0 c) : Y3 (Y4 .i64) H v (mkI k 0) := ⟨a, c, ⟨h, by simp [mkI]⟩, .inl U⟩
theorem Y3.noTerms {H : FH} {v : Value} {a : Option Addr} {c : Nat} {k : Int} (h : v = .slice a 0 c) : Y3 Ye4 H v (mkT k 0) := ⟨a, c, ⟨h, by simp [mkT]⟩, .inl U⟩
theorem Y3.win {α : Type} {τ : Ty α} {H : FH} {v : Value} {xs : List α} {s : Nat} (hs : τ.size = s) (h0 : 0 < s) (hz : ∀ b o, H b = some o → nz o) (h : Y3 τ H v xs) : ∃ C : OL, Yu7 s v xs.length C ∧ C.map Prod.fst = Zn3 v ∧ ∀ x, x ∈ C → H x.1 = some x.2 := by
 subst hs
 obtain ⟨a, c, ⟨hv, _, hrm⟩, h⟩ := h
 rcases h with rfl | ⟨b, o, cs, E, rfl, hb, hc⟩
 exact ⟨[], .inl ⟨a, c, hv, rfl, rfl⟩, by subst hv; cases a <;> rfl, by simp⟩
 cases hn : xs.length with
 | zero => exact ⟨[], .inl ⟨_, c, by rw [hv, hn], U, U⟩, by rw [hv, hn]; rfl, by simp⟩
 | succ n =>
 have hz' : E.2 = (0, 0) := hz b _ hb
 rw [hz'] at hb
 refine ⟨[(b, .cells cs E.1)], .inr ⟨b, o, c, cs, E.1, by rw [hv, hn], ⟨by omega, fun hm => ?_⟩, U⟩, by rw [hv, hn]; rfl, by simp [hb]⟩
 obtain ⟨ecs, hr, hj⟩ := hc n xs[n] (by simp)
 have hl := τ.len hr
 have := hj (τ.size - 1) (by omega)
 have hlt : ecs[τ.size - 1]? = some ecs[τ.size - 1] := by simp
 rw [hlt] at this
 have := (Array.getElem?_eq_some_iff.1 this).1
 rw [Nat.add_mul]; omega
def FH.noM (H : FH) : FH := ⟨H.fr, fun _ => none, H.base⟩
theorem Ve1 (H : FH) : Sub H.noM H := ⟨fun _ _ h => h, fun _ _ h => (by cases h), rfl⟩
theorem St.noM {H : FH} {w : World} {L : OL} (h : St H w L) : St H.noM w L := ⟨h.froz, fun _ _ h => (by cases h), h.rest, h.nofz, h.own, h.nodup, fun x hx => ⟨(h.apart x hx).1, rfl⟩⟩
theorem Y3.noMI {H : FH} {v : Value} {xs : List Int} {k : IntKind} (h : Y3 (Y4 k) H v xs) : Y3 (Y4 k) H.noM v xs := h
theorem Y3.noMT {H : FH} {v : Value} {xs : Zk1} (h : Y3 Ye4 H v xs) : Y3 Ye4 H.noM v xs := h
theorem Y3.noMF {H : FH} {v : Value} {xs : List Zk1} (h : Y3 Yi2 H v xs) : Y3 Yi2 H.noM v xs := h
abbrev vN : Value := .slice none 0 0
abbrev vA (xs : List Value) : Value := .agg xs.toArray
abbrev cA (xs : List Value) (T : TypeId) : Obj := .cells xs.toArray T
abbrev tb (tab : Nat → OL → MP) (G : Nat → OL) : Nat → MP := fun d => tab d (G d)
def Wp4 (P : Program) (n : Nat) (l : List Oper) (m : Nat) (tab : Nat → OL → MP) (con : Con) (H : FH) (L : OL) (f0 : Fr) (j : Nat) (o : Oper) : Prop :=
 ∀ (G : Nat → OL) (f : Fr) (w : World) (H' : FH) (X : OL), Sub H H' → St H' w (X ++ L) → (∀ t, inD (l.take m) t = false → f t = f0 t) →
  (∀ i d, ((Q4 l []).getD j 0).testBit i = true → (l[i]?).bind (·.dst) = some d → (tab d (G d)).p H' (f d)) →
  (∀ k c, con.by_ k = some c → ((Q4 l []).getD j 0).testBit k = true → c.q H' (f c.d)) →
  X7 P n l.toArray (fun f' w' => ∃ d v H'' C, o.dst = some d ∧ f' = upd f d v ∧ Sub H' H'' ∧ St H'' w' ((tab d C).res v ++ (X ++ L)) ∧ (tab d C).p H'' v) [o] f w
def Vg7 (P : Program) (n : Nat) (l : List Oper) (m : Nat) (tab : Nat → OL → MP) (con : Con) (H : FH) (L : OL) (f0 : Fr) (d x : Nat) (r2 : Value → Value → OL) (q2 : FH → Value → Prop) (j : Nat) (o : Oper) : Prop :=
 ∀ (G : Nat → OL) (f : Fr) (w : World) (H' : FH) (X : OL), Sub H H' → St H' w ((tab d (G d)).res (f d) ++ (X ++ L)) → (∀ t, inD (l.take m) t = false → f t = f0 t) →
  (∀ i d, ((Q4 l []).getD j 0).testBit i = true → (l[i]?).bind (·.dst) = some d → (tab d (G d)).p H' (f d)) →
  (∀ k c, con.by_ k = some c → ((Q4 l []).getD j 0).testBit k = true → c.q H' (f c.d)) →
  X7 P n l.toArray (fun f' w' => ∃ H'', o.dst = none ∧ f' = f ∧ Sub H' H'' ∧ St H'' w' (r2 (f x) (f d) ++ (X ++ L)) ∧ q2 H'' (f d)) [o] f w
def Yr3 (P : Program) (n : Nat) (l : List Oper) (m : Nat) (tab : Nat → OL → MP) (con : Con) (H : FH) (L : OL) (f0 : Fr) (j : Nat) (o : Oper) : Prop :=
 match con.by_ j with
 | none => Wp4 P n l m tab con H L f0 j o
 | some c => Vg7 P n l m tab con H L f0 c.d c.x c.r c.q j o
theorem Ze0 {P : Program} {n : Nat} {l : List Oper} {m : Nat} {tab : Nat → OL → MP} {con : Con} {H : FH} {L : OL} {f0 : Fr} {j : Nat} {o : Oper} {r : List Oper} (hc : con.by_ j = none)
 (h : Wp4 P n l m tab con H L f0 j o) (h' : M6 (Yr3 P n l m tab con H L f0) r (j + 1)) : M6 (Yr3 P n l m tab con H L f0) (o :: r) j := by
 refine ⟨?_, h'⟩
 unfold Yr3; rw [hc]; exact h
section
variable {P : Program} {n : Nat} {l : List Oper} {m : Nat} {tab : Nat → OL → MP} {con : Con} {H : FH} {L : OL} {f0 : Fr} {J : Fr → World → Prop}
theorem Wk2 (hok : Ze8 l m = true) (hco : Zx9 con l m = true) (hml : m ≤ l.length) (hq : M6 (Yr3 P n l m tab con H L f0) (l.take m) 0)
 (ht : ∀ (G : Nat → OL) (f : Fr) (w : World) (H' : FH), Sub H H' → St H' w ((range m).flatMap (V5 (tb tab G) con l f fun _ => true) ++ L) → (∀ t, inD (l.take m) t = false → f t = f0 t) →
  (∀ i d, i < m → (l[i]?).bind (·.dst) = some d → (tab d (G d)).p H' (f d)) → (∀ k c, con.by_ k = some c → c.q H' (f c.d)) → X7 P n l.toArray J (l.drop m) f w) :
 ∀ (fuel : Nat) (G : Nat → OL) (listed : Array Bool) (a : Act) (w : World) (f : Fr) (H' : FH), listed.size = l.length → listed.toList.countP id + fuel = l.length →
  (∀ i, listed.getD i false = true → i < m) → Yb8 l listed → Zh2 n a f → Sub H H' → St H' w ((range m).flatMap (V5 (tb tab G) con l f fun i => listed.getD i false) ++ L) → (∀ t, inD (l.take m) t = false → f t = f0 t) →
  (∀ i d, listed.getD i false = true → (l[i]?).bind (·.dst) = some d → (tab d (G d)).p H' (f d)) → (∀ k c, con.by_ k = some c → listed.getD k false = true → c.q H' (f c.d)) → wpAny P .any l.toArray (Yb1 n J) fuel listed a w := by
 intro fuel
 induction fuel with
 | zero =>
  intro G listed a w f H' hs hcnt hlt hc ha Z4 hS hb hv hqs
  have hall := Zu0 (xs := listed.toList) (by have := Array.length_toList (xs := listed); omega)
  have hget : ∀ i, i < l.length → listed.getD i false = true := fun i hi => by
   have := hall i (by simp; omega)
   rw [getD_eq_getElem?_getD] at this
   rw [Array.getD_eq_getD_getElem?]
   simpa using this
  have hme : m = l.length := by
   rcases Nat.lt_or_ge m l.length with h | h
   have := hlt m (hget m h); omega
   omega
  refine ⟨?_, ?_⟩
  cases hr : Region.ready .any l.toArray listed with
  | nil => rfl
  | cons j r =>
   obtain ⟨o, ho, hj, hf, _⟩ := Zd7 hs (by rw [hr]; exact mem_cons_self ..)
   rw [hget j (by omega)] at hf; cases hf
  have hS' : St H' w ((range m).flatMap (V5 (tb tab G) con l f fun _ => true) ++ L) := by
   have : (range m).flatMap (V5 (tb tab G) con l f fun i => listed.getD i false) = (range m).flatMap (V5 (tb tab G) con l f fun _ => true) := by
    refine Zg9 _ (fun i hi => ?_)
    have e := hget i (by have := mem_range.1 hi; omega)
    have e2 : ∀ c, con.of i = some c → listed.getD c.k false = true := fun c hc => hget _ (by have := (M0 hco hc).2.2.1; omega)
    simp only [V5, e]
    cases hdi : (l[i]?).bind (·.dst) with
    | none => rfl
    | some d =>
     cases hof : con.of i with
     | none => rfl
     | some c => simp only [e2 c hof]
   rw [← this]; exact hS
  have := ht G f w H' Z4 hS' hb (fun i d hi hd => hv i d (hget i (by omega)) hd) (fun k c hk => hqs k c hk (hget k (by have := (Zg6 hco hk).2.2.1; omega))) a ha
  rw [hme, drop_length] at this
  exact this
 | succ fuel ih =>
  intro G listed a w f H' hs hcnt hlt hc ha Z4 hS hb hv hqs
  by_cases hall : ∀ i, i < m → listed.getD i false = true
  have hk : ∀ i, listed.getD i false = decide (i < m) := by
   intro i
   by_cases h : i < m
   rw [hall i h]; exact (decide_eq_true h).symm
   cases hg : listed.getD i false with
   | false => exact (decide_eq_false h).symm
   | true => exact absurd (hlt i hg) h
  have hcm : listed.toList.countP id = m := by
   have : ∀ (xs : List Bool) (k : Nat), k ≤ xs.length → (∀ i, xs.getD i false = decide (i < k)) → xs.countP id = k := by
    intro xs
    induction xs with
    | nil => intro k hk _; simp at hk; subst hk; rfl
    | cons x xs ihx =>
     intro k hk h
     have h0 := h 0
     simp at h0
     cases k with
     | zero =>
      have := ihx 0 (by omega) (fun i => by have := h (i + 1); simpa using this)
      have h0 : x = false := by simpa using h0
      subst h0
      simp [countP_cons, this]
     | succ k =>
      have := ihx k (by simpa using hk) (fun i => by have := h (i + 1); simpa using this)
      have h0 : x = true := by simpa using h0
      subst h0
      simp [countP_cons, this]
   refine this _ m (by simp; omega) (fun i => ?_)
   rw [← hk i, getD_eq_getElem?_getD, Array.getD_eq_getD_getElem?]
   simp
  have hS' : St H' w ((range m).flatMap (V5 (tb tab G) con l f fun _ => true) ++ L) := by
   have : (range m).flatMap (V5 (tb tab G) con l f fun i => listed.getD i false) = (range m).flatMap (V5 (tb tab G) con l f fun _ => true) := by
    refine Zg9 _ (fun i hi => ?_)
    have e := hall i (mem_range.1 hi)
    have e2 : ∀ c, con.of i = some c → listed.getD c.k false = true := fun c hc => hall _ (M0 hco hc).2.2.1
    simp only [V5, e]
    cases hdi : (l[i]?).bind (·.dst) with
    | none => rfl
    | some d =>
     cases hof : con.of i with
     | none => rfl
     | some c => simp only [e2 c hof]
   rw [← this]; exact hS
  exact Yc5 hok (fuel + 1) m listed a w hs (by omega) (Nat.le_refl _) hk (ht G f w H' Z4 hS' hb (fun i d hi hd => hv i d (hall i hi) hd) (fun k c hk => hqs k c hk (hall k (Zg6 hco hk).2.2.1)) a ha)
  refine ⟨fun hr => ?_, fun j hj => ?_⟩
  exact absurd (fun i hi => Zy2 hs (Zn5 hok) hr i (by omega)) hall
  obtain ⟨o, ho, hjs, hf, he⟩ := Zd7 hs hj
  obtain ⟨hmk, hc'⟩ := Zv0 ho hc hjs he
  have hjl : j < l.length := by omega
  have hjm : j < m := by
   rcases Nat.lt_or_ge j m with h | h
   exact h
   exact absurd (fun i hi => hmk i (Zs3 hok j h hjl i (by omega))) hall
  have hstep := hq.at (j := j) (o := o) (by rw [getElem?_take, if_pos hjm]; exact ho)
  rw [Nat.zero_add] at hstep
  have hset : ∀ i, i ≠ j → (listed.setIfInBounds j true).getD i false = listed.getD i false := fun i hij => by
   rw [Array.getD_eq_getD_getElem?, Array.getD_eq_getD_getElem?, Array.getElem?_setIfInBounds, if_neg (fun h => hij h.symm)]
  have hsj : (listed.setIfInBounds j true).getD j false = true := by rw [Array.getD_eq_getD_getElem?, Array.getElem?_setIfInBounds]; simp [hjs]
  have hx : listed.toList[j]? = some false := by
   rw [Array.getD_eq_getD_getElem?] at hf
   simpa [hjs] using hf
  have hcnt' : (listed.setIfInBounds j true).toList.countP id + fuel = l.length := by
   have := Zu9 listed.toList j hx
   rw [Array.toList_setIfInBounds]; rw [this]; omega
  have hlt' : ∀ i, (listed.setIfInBounds j true).getD i false = true → i < m := by
   intro i hi
   rcases F2 hi with rfl | h
   exact hjm
   exact hlt i h
  unfold Yr3 at hstep
  cases hby : con.by_ j with
  | none =>
   rw [hby] at hstep
   refine L5 ho ha (hstep G f w H' _ Z4 hS hb (fun i d hi hd => hv i d (hmk i hi) hd) (fun k c hk hi => hqs k c hk (hmk k hi))) ?_
   rintro f' a' w' ha' ⟨d, v, H'', C, hd, rfl, hs2, hS2, hp⟩
   have hupd : ∀ t, upd f d v t = if t = d then v else f t := by
    intro t
    unfold upd
    by_cases e : t = d
    subst e; simp
    rw [if_neg e]
    cases hq : Nat.beq t d with
    | false => rfl
    | true => exact absurd (Nat.eq_of_beq_eq_true hq) e
   obtain ⟨G', hG'⟩ : ∃ G' : Nat → OL, ∀ t, G' t = if t = d then C else G t := ⟨_, fun _ => rfl⟩
   have hGd : G' d = C := by rw [hG', if_pos U]
   refine ih G' (listed.setIfInBounds j true) a' w' (upd f d v) H'' (by simpa using hs) hcnt' hlt' hc' ha' (Z4.trans hs2) ?_ ?_ ?_ ?_
   rw [← append_assoc] at hS2
   refine hS2.perm (List.Perm.append_right L ?_)
   have hdj : (l[j]?).bind (·.dst) = some d := by rw [ho]; exact hd
   have key := Yb6 (g := V5 (tb tab G) con l f fun i => listed.getD i false) (g' := V5 (tb tab G') con l (upd f d v) fun i => (listed.setIfInBounds j true).getD i false) (j := j) (range m) nodup_range (mem_range.2 hjm)
    (by simp only [V5, hf]; rfl)
    (by
     intro i hij
     simp only [V5, hset i hij]
     split
     rename_i hli
     cases hdi : (l[i]?).bind (·.dst) with
     | none => rfl
     | some c =>
      have hne : c ≠ d := by
       have hil := hlt i hli
       refine L8 (P8 hok) (i := i) (j := j) hij ?_ ?_
       rw [getElem?_take, if_pos hil]; exact hdi
       rw [getElem?_take, if_pos hjm]; exact hdj
      simp only
      rw [hupd, if_neg hne, show tb tab G' c = tb tab G c by show tab c (G' c) = tab c (G c); rw [hG', if_neg hne]]
      cases hof : con.of i with
      | none => rfl
      | some e =>
       have hne2 : e.k ≠ j := by
        intro he
        have := (M0 hco hof).2.1
        rw [he, hby] at this; cases this
       simp only [hset e.k hne2]
       by_cases hoe : listed.getD e.k false = true
       case neg => rw [if_neg hoe, if_neg hoe]
       case pos =>
        rw [if_pos hoe, if_pos hoe]
        obtain ⟨_, _, _, _, _, _, h1, h2, h3⟩ := M0 hco hof
        have hli2 := hc _ hoe _ h2
        have hxd : e.x ≠ d := by
         refine L8 (P8 hok) (i := e.i) (j := j) (fun he => by rw [he, hf] at hli2; cases hli2) ?_ ?_
         rw [getElem?_take, if_pos h1]; exact h3
         rw [getElem?_take, if_pos hjm]; exact hdj
        rw [hupd, if_neg hxd]
     rfl)
   have hj' : V5 (tb tab G') con l (upd f d v) (fun i => (listed.setIfInBounds j true).getD i false) j = (tab d C).res v := by
    simp only [V5, hsj, hdj]
    cases hof : con.of j with
    | none => simp [hupd, tb, hGd]
    | some e =>
     obtain ⟨_, hb1, _, _, hb2, _, _⟩ := M0 hco hof
     have hej : e.k ≠ j := by
      intro he; rw [he, hby] at hb1; cases hb1
     have hoff : listed.getD e.k false = false := by
      cases hq : listed.getD e.k false with
      | false => rfl
      | true => exact absurd (hc _ hq j hb2) (by rw [hf]; simp)
     simp [hset _ hej, hoff, hupd, tb, hGd]
   rw [hj'] at key
   exact key
   intro t ht'
   rw [hupd, if_neg, hb t ht']
   rintro rfl
   have : inD (l.take m) t = true := by
    unfold inD
    refine any_eq_true.2 ⟨o, mem_of_getElem? (i := j) (by rw [getElem?_take, if_pos hjm]; exact ho), ?_⟩
    rw [hd]; simp
   rw [this] at ht'; cases ht'
   intro i d' hi hd'
   rw [hupd]
   by_cases e : d' = d
   subst e; rw [if_pos rfl, hGd]; exact hp
   rw [if_neg e]
   rcases F2 hi with rfl | h
   rw [ho] at hd'
   simp only [Option.bind_some] at hd'
   rw [hd] at hd'
   exact absurd (Option.some.inj hd').symm e
   rw [hG', if_neg e]; exact (tab d' (G d')).mono hs2 (hv i d' h hd')
   intro k c hk hi
   have hkj : k ≠ j := by
    intro e; rw [e, hby] at hk; cases hk
   rw [hset k hkj] at hi
   obtain ⟨hk0, _, _, him, hbit, hdst⟩ := Zg6 hco hk
   have hli := hc _ hi _ hbit
   have hne : c.d ≠ d := by
    refine L8 (P8 hok) (i := c.mk_) (j := j) (fun he => by rw [he, hf] at hli; cases hli) ?_ ?_
    rw [getElem?_take, if_pos him]; exact hdst
    rw [getElem?_take, if_pos hjm, ho]; exact hd
   rw [hupd, if_neg hne]
   exact c.qm hs2 (hqs k c hk hi)
  | some c =>
   rw [hby] at hstep
   obtain ⟨hc1, hof, _, him, hbit, hdst⟩ := Zg6 hco hby
   have hij : c.mk_ ≠ j := by
    intro he
    have := hmk _ hbit
    rw [he, hf] at this; cases this
   have honi := hmk _ hbit
   have hgi : V5 (tb tab G) con l f (fun i => listed.getD i false) c.mk_ = (tab c.d (G c.d)).res (f c.d) := by
    simp only [V5, honi, hdst, hof, hc1, hf]; rfl
   have hsp := Zn2 (g := V5 (tb tab G) con l f fun i => listed.getD i false) (j := c.mk_) (range m) nodup_range (mem_range.2 him)
   rw [hgi] at hsp
   have hS1 := hS.perm (List.Perm.append_right L hsp.symm)
   rw [append_assoc] at hS1
   refine L5 ho ha (hstep G f w H' _ Z4 hS1 hb (fun i d hi hd => hv i d (hmk i hi) hd) (fun k c hk hi => hqs k c hk (hmk k hi))) ?_
   rintro f' a' w' ha' ⟨H'', hd, rfl, hs2, hS2, hq2⟩
   refine ih G (listed.setIfInBounds j true) a' w' f' H'' (by simpa using hs) hcnt' hlt' hc' ha' (Z4.trans hs2) ?_ hb ?_ ?_
   rw [← append_assoc] at hS2
   refine hS2.perm (List.Perm.append_right L ?_)
   have hsp2 := Zn2 (g := V5 (tb tab G) con l f' fun i => (listed.setIfInBounds j true).getD i false) (j := c.mk_) (range m) nodup_range (mem_range.2 him)
   have hgi2 : V5 (tb tab G) con l f' (fun i => (listed.setIfInBounds j true).getD i false) c.mk_ = c.r (f' c.x) (f' c.d) := by
    simp only [V5, hset _ hij, honi, hdst, hof, hc1, hsj]; rfl
   rw [hgi2] at hsp2
   have hrest : ((range m).flatMap fun i => if i = c.mk_ then [] else V5 (tb tab G) con l f' (fun i => (listed.setIfInBounds j true).getD i false) i) = (range m).flatMap fun i => if i = c.mk_ then [] else V5 (tb tab G) con l f' (fun i => listed.getD i false) i := by
    refine Zg9 _ (fun i hi => ?_)
    by_cases e : i = c.mk_
    rw [if_pos e, if_pos e]
    rw [if_neg e, if_neg e]
    by_cases eij : i = j
    subst eij
    have : (l[i]?).bind (·.dst) = none := by rw [ho]; exact hd
    simp only [V5, this, hf, hsj]; rfl
    simp only [V5, hset i eij]
    cases hdi : (l[i]?).bind (·.dst) with
    | none => rfl
    | some d =>
     cases he' : con.of i with
     | none => rfl
     | some e' =>
      have hne2 : e'.k ≠ j := by
       intro hk
       have h1 := (M0 hco he').2.1
       rw [hk, hby] at h1
       have h2 := (M0 hco he').1
       rw [← Option.some.inj h1] at h2
       exact e h2.symm
      simp only [hset e'.k hne2]
   rw [hrest] at hsp2
   exact hsp2
   intro i d' hi hd'
   rcases F2 hi with rfl | h
   rw [ho] at hd'
   simp only [Option.bind_some] at hd'
   rw [hd] at hd'; cases hd'
   exact (tab d' (G d')).mono hs2 (hv i d' h hd')
   intro k e hk hi
   by_cases hkj : k = j
   subst hkj
   rw [hby] at hk; cases hk
   exact hq2
   rw [hset k hkj] at hi
   exact e.qm hs2 (hqs k e hk hi)
end
theorem Xp8 {P : Program} {n : Nat} {g : FuncId} {R : Ending → World → Prop} {K : List Item} {l : List Oper} {id : Nat} {H : FH} {L : OL} {f0 : Fr} {w : World}
 (m : Nat) (tab : Nat → OL → MP) (con : Con) (hmix : P.follows .mixedOrders = true) (hok : Ze8 l m = true) (hco : Zx9 con l m = true) (hml : Nat.ble m l.length = true) (hS : St H w L)
 (hq : M6 (Yr3 P n l m tab con H L f0) (l.take m) 0)
 (ht : ∀ (G : Nat → OL) (f : Fr) (w : World) (H' : FH), Sub H H' → St H' w ((range m).flatMap (V5 (tb tab G) con l f fun _ => true) ++ L) → (∀ t, inD (l.take m) t = false → f t = f0 t) →
  (∀ i d, i < m → (l[i]?).bind (·.dst) = some d → (tab d (G d)).p H' (f d)) → (∀ k c, con.by_ k = some c → c.q H' (f c.d)) → X7 P n l.toArray (fun f' w' => Run P n g R K f' w') (l.drop m) f w) :
 Run P n g R (.code (.region id l.toArray true) :: K) f0 w := by
 intro a ha b cs hb hk
 have hml' : m ≤ l.length := by simpa [Nat.ble_eq] using hml
 have hwp : (Code.region id l.toArray true).wp P (Yb1 n (fun f' w' => Run P n g R K f' w')) a w := by
  refine wp_region_any hmix ?_
  have := Wk2 (P := P) (J := fun f' w' => Run P n g R K f' w') hok hco hml' hq ht l.length (fun _ => []) (Array.replicate l.length false) a w.drew f0 H (by simp) (by simp [countP_replicate]) ?_ ?_ ha (Sub.refl _) ?_ (fun _ _ => rfl) ?_ ?_
  simpa using this
  intro i hi; rw [Array.getD_eq_getD_getElem?, Array.getElem?_replicate] at hi; split at hi <;> simp at hi
  intro i hi; rw [Array.getD_eq_getD_getElem?, Array.getElem?_replicate] at hi; split at hi <;> simp at hi
  have : (range m).flatMap (V5 (tb tab fun _ => []) con l f0 fun i => (Array.replicate l.length false).getD i false) = [] := by
   rw [flatMap_eq_nil_iff]
   intro i _
   have : (Array.replicate l.length false).getD i false = false := by rw [Array.getD_eq_getD_getElem?, Array.getElem?_replicate]; split <;> rfl
   simp only [V5, this]; rfl
  rw [this]; exact hS.drew
  intro i d hi; rw [Array.getD_eq_getD_getElem?, Array.getElem?_replicate] at hi; split at hi <;> simp at hi
  intro k c _ hi; rw [Array.getD_eq_getD_getElem?, Array.getElem?_replicate] at hi; split at hi <;> simp at hi
 obtain ⟨e, a', w', ⟨rfl, f', ha', hJ⟩, harr⟩ := hwp b K cs
 obtain ⟨e, w'', fr, hR, hc, hf, hl⟩ := hJ a' ha' b cs hb hk
 exact ⟨e, w'', fr, hR, .of_steps harr hc, hf, hl⟩
def Ye1 {α : Type} (τ : Ty α) (E : TypeId) (r : List α) (H : FH) (L : OL) : Ending → World → Prop := fun e w' => ∃ v H' C, e = .returned v ∧ Sub H H' ∧ St H' w' (C ++ L) ∧ W0 τ E H' v r C
def MP.own {α : Type} (τ : Ty α) (E : TypeId) (xs : List α) (C : OL) : MP := ⟨fun H v => W0 τ E H v xs C, fun hs h => h.mono hs, fun _ => C⟩
theorem Yy1 (P : Program) (w : World) (t e : TypeId) (a : Option Addr) (l c : Nat) (h : ∀ w, (underlying t).run P w = .ok (.slice e) w) : (Op.equal t (.slice a l c) (.slice none 0 0)).run P w = .ok a.isNone w := by
 show (Op.equalIn (9999 + 1) t (.slice a l c) (.slice none 0 0)).run P w = _
 unfold Op.equalIn
 simp only [Sem.run_bind, h w, Result.andThen_ok]
 cases a <;> rfl
theorem Xf2 {P : Program} {n : Nat} {ops : Array Oper} {J : Fr → World → Prop} {r : List Oper} {f : Fr} {w : World} {d : Nat} {pos : String} {af : Array Edge} {T X Y E : TypeId} {x y : Operand} {a : Option Addr} {l c s : Nat}
 (t : SlI P X E s) (hx : ev f x = .slice a l c) (hy : ev f y = .slice none 0 0) (hn : Nat.blt d n = true)
 (K : X7 P n ops J r (upd f d (.bool a.isNone)) w) : X7 P n ops J (⟨some d, .binOp .eql X x y Y, T, pos, af, none⟩ :: r) f w := by
 refine U2 U U hn ?_ K
 simp [execOp, hx, hy, eqGuard, binOp, Yy1 P w X E a l c t.under]
def Sb (H G : FH) : Prop := Yx8 H.fr G.fr ∧ G.base = H.base
theorem Sb.refl (H : FH) : Sb H H := ⟨fun _ _ h => h, U⟩
theorem Sb.trans {H G K : FH} (h : Sb H G) (h' : Sb G K) : Sb H K := ⟨fun b o e => h'.1 b o (h.1 b o e), h'.2.trans h.2⟩
theorem Sub.sb {H G : FH} (h : Sub H G) : Sb H G := ⟨h.1, h.2.2⟩
def Vg0 (H H' : FH) (C : OL) : Prop := (∀ x, x ∈ C → H' x.1 = some x.2 ∧ H x.1 = none ∧ ∃ cs E z, x.2 = .cells cs E z) ∧ (C.map Prod.fst).Nodup
theorem Vg0.out {H1 H2 G : FH} {C L : OL} {w : World} (h : Vg0 H1 H2 C) (h12 : Sub H1 H2) (hs : Sb H2 G) (hS : St G w L) :
 ∃ H4, Sub H1.noM H4 ∧ (∀ H0 Hc, Sub H0 H1 → (∀ b, H0.memo b = none) → Yx8 H2.fr Hc.fr → Sub (G.new Hc) (H4.new H0)) ∧ (∀ {k v m}, N0 k G v m → N0 k H4 v m) ∧ St H4 w (C ++ L) := by
 have hin : ∀ b, b ∈ C.map Prod.fst → ∃ o, H2 b = some o ∧ H1 b = none ∧ ∃ cs E z, o = .cells cs E z := by
  intro b hb
  obtain ⟨x, hx, rfl⟩ := mem_map.1 hb
  obtain ⟨h1, h2, h3⟩ := h.1 x hx
  exact ⟨_, h1, h2, h3⟩
 refine ⟨G.minus (C.map Prod.fst), ⟨fun b o hb => ?_, fun b i e => (by cases e), ?_⟩, ?_, ?_, hS.unfreeze C (fun x hx => hs.1 _ _ (h.1 x hx).1) h.2⟩
 have hb : H1 b = some o := hb
 refine Zy7.2 ⟨fun hin' => ?_, hs.1 _ _ (h12.1 _ _ hb)⟩
 obtain ⟨_, _, h2, _⟩ := hin b hin'
 rw [h2] at hb; cases hb
 show G.base = H1.base
 exact hs.2.trans h12.2.2
 intro H0 Hc h0 hM hc
 have hc1 : Yx8 H1.fr Hc.fr := fun b o e => hc _ _ (h12.1 _ _ e)
 refine ⟨fun b o hb => ?_, fun b i e => (by cases e), rfl⟩
 obtain ⟨g1, g2, g3⟩ := A9.1 hb
 refine A9.2 ⟨Zy7.2 ⟨fun hin' => ?_, g1⟩, ?_, hM b⟩
 obtain ⟨o', h2, _, _⟩ := hin b hin'
 have := hc _ _ h2
 rw [g2] at this; cases this
 cases hq : H0 b with
 | none => rfl
 | some o' =>
  have := hc1 _ _ (h0.1 _ _ hq)
  rw [g2] at this; cases this
 intro k v m hm
 rcases hm with hm | ⟨s, b, es, c, ys, e, hb, h1, h2⟩
 exact .inl hm
 refine .inr ⟨s, b, es, c, ys, e, Zy7.2 ⟨fun hin' => ?_, hb⟩, h1, h2⟩
 obtain ⟨o', h3, _, cs, E, z, h4⟩ := hin b hin'
 have := hs.1 _ _ h3
 rw [hb, h4] at this; cases this
theorem bT {p : Prop} [Decidable p] (h : p) {x : Value} (e : x = .bool (decide p)) : x = .bool true := e.trans (congrArg Value.bool (decide_eq_true h))
theorem bF {p : Prop} [Decidable p] (h : ¬ p) {x : Value} (e : x = .bool (decide p)) : x = .bool false := e.trans (congrArg Value.bool (decide_eq_false h))
theorem bN {p : Prop} [Decidable p] (h : p) {x : Value} (e : x = .bool (!decide p)) : x = .bool false := e.trans (congrArg (fun b => Value.bool (!b)) (decide_eq_true h))
theorem bO {p : Prop} [Decidable p] (h : ¬ p) {x : Value} (e : x = .bool (!decide p)) : x = .bool true := e.trans (congrArg (fun b => Value.bool (!b)) (decide_eq_false h))
theorem gvR {α : Type} {ρ : Zr7 α} {x : α} {H : FH} {f : Fr} {d : Nat} (h : (MP.rep ρ x).p H (f d)) : ∃ u, ev f (.tmp d) = u ∧ ρ.p H u x := ⟨_, U, h⟩
theorem eM {H : FH} {f : Fr} {d : Nat} {v : Value} (h : (MP.eq v).p H (f d)) : ev f (.tmp d) = v := h
theorem gvM {k : IntKind} {x : MpT} {H : FH} {f : Fr} {d : Nat} (h : (MP.mp k x).p H (f d)) : ∃ u, ev f (.tmp d) = u ∧ N0 k H u x := ⟨_, U, h⟩
theorem gvS {α : Type} {τ : Ty α} {x : List α} {H : FH} {f : Fr} {d : Nat} (h : (MP.sl τ x).p H (f d)) : ∃ u, ev f (.tmp d) = u ∧ Y3 τ H u x := ⟨_, U, h⟩
abbrev vQ (b o : Nat) : Value := .pointer (some ⟨b, o, none⟩)
section
variable {P : Program} {n : Nat} {ops : Array Oper} {J : Fr → World → Prop} {r : List Oper} {f : Fr} {w : World} {d : Nat} {T : TypeId} {pos : String} {af : Array Edge}
theorem Wr5 {fid : FuncId} {t : Nat} {xs ats : Array _} {vs caps as : Array Value} (hcall : ∀ args w, (callFunc fid args).run P w = .ok (.enter fid args) w) (hf : ev f (.tmp t) = .func (.func fid) #[] caps) (hx : xs.map (ev f) = vs) (ha : vs ++ caps = as) (hn : Nat.blt d n = true)
 {C : Ending → World → Prop} (hc : Calls P fid as w C)
 (K : ∀ e w', C e w' → ∃ v, e = .returned v ∧ X7 P n ops J r (upd f d v) w') : X7 P n ops J (⟨some d, .call ⟨.value (.tmp t), xs, ats⟩, T, pos, af, none⟩ :: r) f w :=
 by
 subst ha
 exact Xe3 U U hn (by simp [execOp, resolve, hf, Deferred.ofValue, invoke, hx, hcall]) hc K
end
theorem Zf0 (f : Fr) (d : Nat) (v : Value) (t : Nat) : upd f d v t = if t = d then v else f t := by
 unfold upd
 by_cases e : t = d
 subst e; simp
 rw [if_neg e]
 cases hq : Nat.beq t d with
 | false => rfl
 | true => exact absurd (Nat.eq_of_beq_eq_true hq) e
theorem Yy6 : ∀ (xs : List Bool) (k : Nat), k ≤ xs.length → (∀ i, xs.getD i false = decide (i < k)) → xs.countP id = k := by
 intro xs
 induction xs with
 | nil => intro k hk _; simp at hk; subst hk; rfl
 | cons x xs ihx =>
  intro k hk h
  have h0 := h 0
  simp at h0
  cases k with
  | zero =>
   have := ihx 0 (by omega) (fun i => by have := h (i + 1); simpa using this)
   have h0 : x = false := by simpa using h0
   subst h0
   simp [countP_cons, this]
  | succ k =>
   have := ihx k (by simpa using hk) (fun i => by have := h (i + 1); simpa using this)
   have h0 : x = true := by simpa using h0
   subst h0
   simp [countP_cons, this]
theorem Zz9 {l : List Oper} {j m d : Nat} {o : Oper} (h : l[j]? = some o) (hj : j < m) (hd : o.dst = some d) : inD (l.take m) d = true := by
 unfold inD
 refine any_eq_true.2 ⟨o, mem_of_getElem? (i := j) (by rw [getElem?_take, if_pos hj]; exact h), ?_⟩
 rw [hd]; simp
theorem Vg6 {l : List Oper} {m t : Nat} (h : inD (l.take (m + 1)) t = false) : inD (l.take m) t = false := by
 cases hq : inD (l.take m) t with
 | false => rfl
 | true =>
  unfold inD at hq h
  obtain ⟨o, ho, hd⟩ := any_eq_true.1 hq
  have : o ∈ l.take (m + 1) := by
   obtain ⟨i, hi⟩ := getElem?_of_mem ho
   rw [getElem?_take] at hi
   split at hi
   exact mem_of_getElem? (i := i) (by rw [getElem?_take, if_pos (by omega)]; exact hi)
   cases hi
  rw [any_eq_true.2 ⟨o, this, hd⟩] at h; cases h
section
variable {P : Program} {n : Nat} {l : List Oper} {m : Nat} {tab : Nat → MP} {H : FH} {L : OL} {f0 : Fr} {J : Fr → World → Prop} {B : FH → World → Value → Prop} {j0 d0 s dm : Nat} {T0 : TypeId} {pos0 : String} {af0 : Array Edge}
theorem Va8 (hres : ∀ d v, (tab d).res v = []) (hok : Ze8 l (m + 1) = true) (hml : m + 1 ≤ l.length) (h0 : l[j0]? = some ⟨some d0, .move (.tmp s), T0, pos0, af0, none⟩) (hj0 : j0 < m) (hd0 : Nat.blt d0 n = true)
 (hdm : (l[m]?).bind (·.dst) = some dm) (hmid : ∀ i, i < m → i ≠ j0 → ((Q4 l []).getD m 0).testBit i = true) (hs0 : inD (l.take (m + 1)) s = false) (hp0 : ∀ H', Sub H H' → (tab d0).p H' (f0 s))
 (hq : M6 (Ze2 P n l m tab [] H L f0) (l.take m) 0)
 (hm : ∀ o f w H', l[m]? = some o → Sub H H' → St H' w L → (∀ t, inD (l.take m) t = false → f t = f0 t) → (∀ i d, i < m → i ≠ j0 → (l[i]?).bind (·.dst) = some d → (tab d).p H' (f d)) →
  X7 P n l.toArray (fun f' w' => ∃ v H'', f' = upd f dm v ∧ Sub H' H'' ∧ B H'' w' v) [o] f w)
 (ht : ∀ f w H', Sub H H' → B H' w (f dm) → (∀ t, inD (l.take (m + 1)) t = false → f t = f0 t) → (∀ i d, i < m → (l[i]?).bind (·.dst) = some d → (tab d).p H' (f d)) → X7 P n l.toArray J (l.drop (m + 1)) f w) :
 ∀ (fuel : Nat) (listed : Array Bool) (a : Act) (w : World) (f : Fr) (H' : FH), listed.size = l.length → listed.toList.countP id + fuel = l.length →
  (∀ i, listed.getD i false = true → i < m + 1) → Yb8 l listed → Zh2 n a f → Sub H H' →
  (listed.getD m false = false → St H' w L ∧ ∀ t, inD (l.take m) t = false → f t = f0 t) → (listed.getD m false = true → B H' w (f dm)) → (∀ t, inD (l.take (m + 1)) t = false → f t = f0 t) →
  (∀ i d, i < m → listed.getD i false = true → (l[i]?).bind (·.dst) = some d → (tab d).p H' (f d)) → wpAny P .any l.toArray (Yb1 n J) fuel listed a w := by
 have hne : ∀ i d, i < m → (l[i]?).bind (·.dst) = some d → d ≠ dm := fun i d hi hd =>
  L8 (P8 hok) (i := i) (j := m) (by omega) (by rw [getElem?_take, if_pos (by omega)]; exact hd) (by rw [getElem?_take, if_pos (by omega)]; exact hdm)
 have hdd : ∀ i j d d', i ≠ j → i < m → j < m → (l[i]?).bind (·.dst) = some d → (l[j]?).bind (·.dst) = some d' → d ≠ d' := fun i j d d' hij hi hj hd hd' =>
  L8 (P8 hok) (i := i) (j := j) hij (by rw [getElem?_take, if_pos (by omega)]; exact hd) (by rw [getElem?_take, if_pos (by omega)]; exact hd')
 intro fuel
 induction fuel with
 | zero =>
  intro listed a w f H' hs hcnt hlt hc ha Z4 hA hB hb hv
  have hall := Zu0 (xs := listed.toList) (by have := Array.length_toList (xs := listed); omega)
  have hget : ∀ i, i < l.length → listed.getD i false = true := fun i hi => by
   have := hall i (by simp; omega)
   rw [getD_eq_getElem?_getD] at this
   rw [Array.getD_eq_getD_getElem?]
   simpa using this
  have hme : m + 1 = l.length := by
   rcases Nat.lt_or_ge (m + 1) l.length with h | h
   have := hlt (m + 1) (hget (m + 1) h); omega
   omega
  refine ⟨?_, ?_⟩
  cases hr : Region.ready .any l.toArray listed with
  | nil => rfl
  | cons j r =>
   obtain ⟨o, ho, hj, hf, _⟩ := Zd7 hs (by rw [hr]; exact mem_cons_self ..)
   rw [hget j (by omega)] at hf; cases hf
  have := ht f w H' Z4 (hB (hget m (by omega))) hb (fun i d hi hd => hv i d hi (hget i (by omega)) hd) a ha
  rw [hme, drop_length] at this
  exact this
 | succ fuel ih =>
  intro listed a w f H' hs hcnt hlt hc ha Z4 hA hB hb hv
  by_cases hall : ∀ i, i < m + 1 → listed.getD i false = true
  have hk : ∀ i, listed.getD i false = decide (i < m + 1) := by
   intro i
   by_cases h : i < m + 1
   rw [hall i h]; exact (decide_eq_true h).symm
   cases hg : listed.getD i false with
   | false => exact (decide_eq_false h).symm
   | true => exact absurd (hlt i hg) h
  have hcm : listed.toList.countP id = m + 1 := by
   refine Yy6 _ (m + 1) (by simp; omega) (fun i => ?_)
   rw [← hk i, getD_eq_getElem?_getD, Array.getD_eq_getD_getElem?]
   simp
  exact Yc5 hok (fuel + 1) (m + 1) listed a w hs (by omega) (Nat.le_refl _) hk (ht f w H' Z4 (hB (hall m (by omega))) hb (fun i d hi hd => hv i d hi (hall i (by omega)) hd) a ha)
  refine ⟨fun hr => ?_, fun j hj => ?_⟩
  exact absurd (fun i hi => Zy2 hs (Zn5 hok) hr i (by omega)) hall
  obtain ⟨o, ho, hjs, hf, he⟩ := Zd7 hs hj
  obtain ⟨hmk, hc'⟩ := Zv0 ho hc hjs he
  have hjl : j < l.length := by omega
  have hjm : j < m + 1 := by
   rcases Nat.lt_or_ge j (m + 1) with h | h
   exact h
   exact absurd (fun i hi => hmk i (Zs3 hok j h hjl i (by omega))) hall
  have hset : ∀ i, i ≠ j → (listed.setIfInBounds j true).getD i false = listed.getD i false := fun i hij => by
   rw [Array.getD_eq_getD_getElem?, Array.getD_eq_getD_getElem?, Array.getElem?_setIfInBounds, if_neg (fun h => hij h.symm)]
  have hsj : (listed.setIfInBounds j true).getD j false = true := by rw [Array.getD_eq_getD_getElem?, Array.getElem?_setIfInBounds]; simp [hjs]
  have hx : listed.toList[j]? = some false := by
   rw [Array.getD_eq_getD_getElem?] at hf
   simpa [hjs] using hf
  have hcnt' : (listed.setIfInBounds j true).toList.countP id + fuel = l.length := by
   have := Zu9 listed.toList j hx
   rw [Array.toList_setIfInBounds]; rw [this]; omega
  have hlt' : ∀ i, (listed.setIfInBounds j true).getD i false = true → i < m + 1 := by
   intro i hi
   rcases F2 hi with rfl | h
   exact hjm
   exact hlt i h
  by_cases ejm : j = m
  subst ejm
  obtain ⟨hS, hbA⟩ := hA hf
  refine L5 ho ha (hm o f w H' ho Z4 hS hbA (fun i d hi hij hd => hv i d hi (hmk i (hmid i hi hij)) hd)) ?_
  rintro f' a' w' ha' ⟨v, H'', rfl, hs2, hB2⟩
  refine ih (listed.setIfInBounds j true) a' w' (upd f dm v) H'' (by simpa using hs) hcnt' hlt' hc' ha' (Z4.trans hs2) (fun h => by rw [hsj] at h; cases h) (fun _ => by rw [Zf0, if_pos rfl]; exact hB2) ?_ ?_
  intro t ht'
  rw [Zf0, if_neg, hb t ht']
  rintro rfl
  rw [ho] at hdm
  rw [Zz9 ho (by omega) hdm] at ht'; cases ht'
  intro i d hi hil hd
  rw [Zf0, if_neg (hne i d hi hd)]
  rw [hset i (by omega)] at hil
  exact (tab d).mono hs2 (hv i d hi hil hd)
  have hjm' : j < m := by omega
  by_cases hlm : listed.getD m false = true
  have ej : j = j0 := by
   by_cases e : j = j0
   exact e
   have := hc m hlm j (hmid j hjm' e)
   rw [hf] at this; cases this
  subst ej
  rw [h0] at ho; cases ho
  have hB1 := hB hlm
  have hd : (l[j]?).bind (·.dst) = some d0 := by rw [h0]; rfl
  have hfs : f s = f0 s := hb s hs0
  refine L5 h0 ha (J1 := fun f' w' => f' = upd f d0 (f0 s) ∧ w' = w) (Z3 (f0 s) hfs hd0 (Z2 ⟨U, U⟩)) ?_
  rintro f' a' w' ha' ⟨rfl, rfl⟩
  refine ih (listed.setIfInBounds j true) a' w' (upd f d0 (f0 s)) H' (by simpa using hs) hcnt' hlt' hc' ha' Z4 (fun h => by rw [hset m (by omega), hlm] at h; cases h) (fun _ => by
   rw [Zf0, if_neg (hne j d0 hjm' hd).symm]; exact hB1) ?_ ?_
  intro t ht'
  rw [Zf0, if_neg, hb t ht']
  rintro rfl
  rw [Zz9 h0 (by omega) rfl] at ht'; cases ht'
  intro i d hi hil hd'
  rw [Zf0]
  by_cases e : d = d0
  subst e; rw [if_pos rfl]; exact hp0 H' Z4
  rw [if_neg e]
  rcases F2 hil with rfl | h
  rw [hd] at hd'; exact absurd (Option.some.inj hd').symm e
  exact hv i d hi h hd'
  have hlm : listed.getD m false = false := by simpa using hlm
  obtain ⟨hS, hbA⟩ := hA hlm
  have hstep := hq.at (j := j) (o := o) (by rw [getElem?_take, if_pos hjm']; exact ho)
  rw [Nat.zero_add] at hstep
  have hstep : Zg3 P n l m tab [] H L f0 j o := hstep
  refine L5 ho ha (hstep f w H' [] Z4 hS hbA (fun i d hi hd => hv i d (by
   have hil := hmk i hi
   rcases Nat.lt_or_ge i m with h | h
   exact h
   have := hlt i hil
   have : i = m := by omega
   rw [this, hlm] at hil; cases hil) (hmk i hi) hd) (fun k c hk _ => by cases hk)) ?_
  rintro f' a' w' ha' ⟨d, v, H'', hd, rfl, hs2, hS2, hp⟩
  rw [hres, nil_append, nil_append] at hS2
  have hdj : (l[j]?).bind (·.dst) = some d := by rw [ho]; exact hd
  refine ih (listed.setIfInBounds j true) a' w' (upd f d v) H'' (by simpa using hs) hcnt' hlt' hc' ha' (Z4.trans hs2) (fun _ => ⟨hS2, fun t ht' => ?_⟩) (fun h => by rw [hset m (by omega), hlm] at h; cases h) ?_ ?_
  rw [Zf0, if_neg, hbA t ht']
  rintro rfl
  rw [Zz9 ho hjm' hd] at ht'; cases ht'
  intro t ht'
  rw [Zf0, if_neg, hb t ht']
  rintro rfl
  rw [Zz9 ho (by omega) hd] at ht'; cases ht'
  intro i d' hi hil hd'
  rw [Zf0]
  by_cases e : d' = d
  subst e; rw [if_pos rfl]; exact hp
  rw [if_neg e]
  rcases F2 hil with rfl | h
  rw [hdj] at hd'; exact absurd (Option.some.inj hd').symm e
  exact (tab d').mono hs2 (hv i d' hi h hd')
end
theorem Xz3 {xs : List (Nat × MP)} (h : ∀ p, p ∈ xs → ∀ v, p.2.res v = []) (d : Nat) (v : Value) : (S8 xs d).res v = [] := by
 induction xs with
 | nil => rfl
 | cons p xs ih =>
  unfold S8
  cases Nat.beq d p.1
  exact ih (fun q hq => h q (mem_cons_of_mem _ hq))
  exact h p (mem_cons_self ..) v
theorem Ve0 {P : Program} {n : Nat} {g : FuncId} {R : Ending → World → Prop} {K : List Item} {l : List Oper} {id : Nat} {H : FH} {L : OL} {f0 : Fr} {w : World} {j0 d0 s dm : Nat} {T0 : TypeId} {pos0 : String} {af0 : Array Edge}
 (m : Nat) (tab : Nat → MP) (B : FH → World → Value → Prop) (hmix : P.follows .mixedOrders = true) (hres : ∀ d v, (tab d).res v = []) (hok : Ze8 l (m + 1) = true) (hml : Nat.ble (m + 1) l.length = true)
 (h0 : l[j0]? = some ⟨some d0, .move (.tmp s), T0, pos0, af0, none⟩) (hj0 : Nat.blt j0 m = true) (hd0 : Nat.blt d0 n = true) {om : Oper} (hom : l[m]? = some om) (hdm : (l[m]?).bind (·.dst) = some dm)
 (hmid : ((range m).all fun i => Nat.beq i j0 || ((Q4 l []).getD m 0).testBit i) = true) (hs0 : inD (l.take (m + 1)) s = false) (hp0 : ∀ H', Sub H H' → (tab d0).p H' (f0 s)) (hS : St H w L)
 (hq : M6 (Ze2 P n l m tab [] H L f0) (l.take m) 0)
 (hm : ∀ f w H', Sub H H' → St H' w L → (∀ t, inD (l.take m) t = false → f t = f0 t) → (∀ i d, i < m → i ≠ j0 → (l[i]?).bind (·.dst) = some d → (tab d).p H' (f d)) →
  X7 P n l.toArray (fun f' w' => ∃ v H'', f' = upd f dm v ∧ Sub H' H'' ∧ B H'' w' v) [om] f w)
 (ht : ∀ f w H', Sub H H' → B H' w (f dm) → (∀ t, inD (l.take (m + 1)) t = false → f t = f0 t) → (∀ i d, i < m → (l[i]?).bind (·.dst) = some d → (tab d).p H' (f d)) → X7 P n l.toArray (fun f' w' => Run P n g R K f' w') (l.drop (m + 1)) f w) :
 Run P n g R (.code (.region id l.toArray true) :: K) f0 w := by
 intro a ha b cs hb hk
 have hml' : m + 1 ≤ l.length := by simpa [Nat.ble_eq] using hml
 have hj0' : j0 < m := by simpa [Nat.blt_eq] using hj0
 have hz : ∀ i, (Array.replicate l.length false).getD i false = false := fun i => by rw [Array.getD_eq_getD_getElem?, Array.getElem?_replicate]; split <;> rfl
 have hwp : (Code.region id l.toArray true).wp P (Yb1 n (fun f' w' => Run P n g R K f' w')) a w := by
  refine wp_region_any hmix ?_
  have := Va8 (P := P) (J := fun f' w' => Run P n g R K f' w') hres hok hml' h0 hj0' hd0 hdm (fun i hi hne => by
   have h := all_eq_true.1 hmid i (mem_range.2 hi)
   rcases Bool.or_eq_true .. |>.mp h with h | h
   exact absurd (Nat.eq_of_beq_eq_true h) hne
   exact h) hs0 hp0 hq (fun o f w H' ho => by rw [hom] at ho; cases ho; exact hm f w H') ht l.length (Array.replicate l.length false) a w.drew f0 H (by simp) (by simp [countP_replicate]) (fun i hi => by rw [hz] at hi; cases hi)
   (fun i hi => by rw [hz] at hi; cases hi) ha (Sub.refl _) (fun _ => ⟨hS.drew, fun _ _ => rfl⟩) (fun h => by rw [hz] at h; cases h) (fun _ _ => rfl) (fun i d _ hi => by rw [hz] at hi; cases hi)
  simpa using this
 obtain ⟨e, a', w', ⟨rfl, f', ha', hJ⟩, harr⟩ := hwp b K cs
 obtain ⟨e, w'', fr, hR, hc, hf, hl⟩ := hJ a' ha' b cs hb hk
 exact ⟨e, w'', fr, hR, .of_steps harr hc, hf, hl⟩
abbrev tv (f : Fr) (n : Nat) : Value := ev f (.tmp n)
abbrev vB (b : Bool) : Value := Value.bool b
abbrev mE (n : Nat) (v : Value) : Nat × MP := (n, MP.eq v)
theorem oi {α : Type} {a b : α} (h : some a = some b) : a = b := Option.some.inj h
theorem nl {a b : Nat} (h : Nat.ble a b = true) : a ≤ b := Nat.le_of_ble_eq_true h
theorem ic {α : Type} {p : Prop} [Decidable p] {a b r : α} (h : (if p then a else b) = r) : (p ∧ a = r) ∨ (¬ p ∧ b = r) := by
 by_cases hp : p
 rw [if_pos hp] at h; exact .inl ⟨hp, h⟩
 rw [if_neg hp] at h; exact .inr ⟨hp, h⟩
theorem qz {P : Program} {n : Nat} {ops : Array Oper} {tab : Nat → MP} {H' : FH} {X L : OL} {f : Fr} {w : World} {o : Oper} {d : Nat} {v : Value} (hS : St H' w ((tab d).res v ++ (X ++ L))) (ho : o.dst = some d := by exact U) (hp : (tab d).p H' v := by exact U) :
 X7 P n ops (fun f' w' => ∃ d v H'', o.dst = some d ∧ f' = upd f d v ∧ Sub H' H'' ∧ St H'' w' ((tab d).res v ++ (X ++ L)) ∧ (tab d).p H'' v) [] (upd f d v) w := qn (.refl _) ho hS hp
theorem X2 {P : Program} {n : Nat} {ops : Array Oper} {J : Fr → World → Prop} {r : List Oper} {f : Fr} {w : World} {d : Nat} {T : TypeId} {pos : String} {af : Array Edge} {fid : FuncId} {xs ats : Array _} {vs : Array Value}
 (hcall : ∀ args w, (callFunc fid args).run P w = .ok (.enter fid args) w) (hx : xs.map (ev f) = vs) (hn : Nat.blt d n = true) {R : Value → FH → Prop} {H : FH} {L : OL} (hc : Calls P fid vs w (T4 R H L))
 (K : ∀ v G w', Sub H G → St G w' L → R v G → X7 P n ops J r (upd f d v) w') : X7 P n ops J (⟨some d, .call ⟨.value (.func fid), xs, ats⟩, T, pos, af, none⟩ :: r) f w :=
 U9 hcall hx hn hc fun e w' ⟨v, G, he, hs, hS, hR⟩ => ⟨v, he, K v G w' hs hS hR⟩
section
variable {P : Program} {n : Nat} {l : List Oper} {m : Nat} {tab : Nat → MP} {con : Con} {H : FH} {L : OL} {f0 : Fr} {j : Nat} {o : Oper}
theorem X4 (h : ∀ {f : Fr} {w : World} {H' : FH} {X : OL}, St H' w (X ++ L) → (∀ t, inD (l.take m) t = false → f t = f0 t) → X7 P n l.toArray (fun f' w' => ∃ d v H'', o.dst = some d ∧ f' = upd f d v ∧ Sub H' H'' ∧ St H'' w' ((tab d).res v ++ (X ++ L)) ∧ (tab d).p H'' v) [o] f w) : Zg3 P n l m tab con H L f0 j o :=
 fun _ _ _ _ _ S B _ _ => h S B
theorem Y7 (h : ∀ {f : Fr} {w : World} {H' : FH} {X : OL}, St H' w (X ++ L) → (∀ i d, ((Q4 l []).getD j 0).testBit i = true → (l[i]?).bind (·.dst) = some d → (tab d).p H' (f d)) → X7 P n l.toArray (fun f' w' => ∃ d v H'', o.dst = some d ∧ f' = upd f d v ∧ Sub H' H'' ∧ St H'' w' ((tab d).res v ++ (X ++ L)) ∧ (tab d).p H'' v) [o] f w) : Zg3 P n l m tab con H L f0 j o :=
 fun _ _ _ _ _ S _ V _ => h S V
theorem K6 (h : ∀ {f : Fr} {w : World} {H' : FH} {X : OL}, St H' w (X ++ L) → (∀ t, inD (l.take m) t = false → f t = f0 t) → (∀ i d, ((Q4 l []).getD j 0).testBit i = true → (l[i]?).bind (·.dst) = some d → (tab d).p H' (f d)) → X7 P n l.toArray (fun f' w' => ∃ d v H'', o.dst = some d ∧ f' = upd f d v ∧ Sub H' H'' ∧ St H'' w' ((tab d).res v ++ (X ++ L)) ∧ (tab d).p H'' v) [o] f w) : Zg3 P n l m tab con H L f0 j o :=
 fun _ _ _ _ _ S B V _ => h S B V
theorem Vj3 (h : ∀ {f : Fr} {w : World} {H' : FH} {X : OL}, Sub H H' → St H' w (X ++ L) → (∀ t, inD (l.take m) t = false → f t = f0 t) → X7 P n l.toArray (fun f' w' => ∃ d v H'', o.dst = some d ∧ f' = upd f d v ∧ Sub H' H'' ∧ St H'' w' ((tab d).res v ++ (X ++ L)) ∧ (tab d).p H'' v) [o] f w) : Zg3 P n l m tab con H L f0 j o :=
 fun _ _ _ _ s S B _ _ => h s S B
theorem P0 (h : ∀ {f : Fr} {w : World} {H' : FH} {X : OL}, Sub H H' → St H' w (X ++ L) → (∀ i d, ((Q4 l []).getD j 0).testBit i = true → (l[i]?).bind (·.dst) = some d → (tab d).p H' (f d)) → X7 P n l.toArray (fun f' w' => ∃ d v H'', o.dst = some d ∧ f' = upd f d v ∧ Sub H' H'' ∧ St H'' w' ((tab d).res v ++ (X ++ L)) ∧ (tab d).p H'' v) [o] f w) : Zg3 P n l m tab con H L f0 j o :=
 fun _ _ _ _ s S _ V _ => h s S V
end
theorem nT {v : Value} {a b : Bool} (e : a = b) (h : v = Value.bool (!a) := by rfl) : v = Value.bool (!b) := h.trans (congrArg (fun b => Value.bool (!b)) e)
section
variable {P : Program} {n : Nat} {l : List Oper} {m : Nat} {tab : Nat → MP} {H : FH} {L : OL} {f0 : Fr} {j : Nat} {o o1 o2 o3 o4 o5 o6 o7 : Oper} {r : List Oper}
theorem I2 (h : Zg3 P n l m tab [] H L f0 j o) (h' : M6 (Ze2 P n l m tab [] H L f0) r (j + 1)) : M6 (Ze2 P n l m tab [] H L f0) (o :: r) j := W7 U h h'
theorem L7 (h : Zg3 P n l m tab [] H L f0 j o) (h1 : Zg3 P n l m tab [] H L f0 (j + 1) o1) (h' : M6 (Ze2 P n l m tab [] H L f0) r (j + 1 + 1)) : M6 (Ze2 P n l m tab [] H L f0) (o :: o1 :: r) j := I2 h (I2 h1 h')
theorem K3 (h : Zg3 P n l m tab [] H L f0 j o) (h1 : Zg3 P n l m tab [] H L f0 (j + 1) o1) (h2 : Zg3 P n l m tab [] H L f0 (j + 1 + 1) o2) (h3 : Zg3 P n l m tab [] H L f0 (j + 1 + 1 + 1) o3) (h' : M6 (Ze2 P n l m tab [] H L f0) r (j + 1 + 1 + 1 + 1)) : M6 (Ze2 P n l m tab [] H L f0) (o :: o1 :: o2 :: o3 :: r) j := L7 h h1 (L7 h2 h3 h')
theorem U1 (h : Zg3 P n l m tab [] H L f0 j o) (h1 : Zg3 P n l m tab [] H L f0 (j + 1) o1) (h2 : Zg3 P n l m tab [] H L f0 (j + 1 + 1) o2) (h3 : Zg3 P n l m tab [] H L f0 (j + 1 + 1 + 1) o3) (h4 : Zg3 P n l m tab [] H L f0 (j + 1 + 1 + 1 + 1) o4) (h5 : Zg3 P n l m tab [] H L f0 (j + 1 + 1 + 1 + 1 + 1) o5) (h6 : Zg3 P n l m tab [] H L f0 (j + 1 + 1 + 1 + 1 + 1 + 1) o6) (h7 : Zg3 P n l m tab [] H L f0 (j + 1 + 1 + 1 + 1 + 1 + 1 + 1) o7) (h' : M6 (Ze2 P n l m tab [] H L f0) r (j + 1 + 1 + 1 + 1 + 1 + 1 + 1 + 1)) : M6 (Ze2 P n l m tab [] H L f0) (o :: o1 :: o2 :: o3 :: o4 :: o5 :: o6 :: o7 :: r) j := K3 h h1 h2 h3 (K3 h4 h5 h6 h7 h')
end
end Go.Proofs.YtabofnehiclkiaaGreat
