/- Memory that does not change and memory of one's own: rules for the walk. -/
import Derived.Tactics
import Derived.Orders
import Derived.WalkKit
import Derived.Laws.AppendOwn
namespace Go.Proofs.YtabofnehiclkiaaGreat
open Go
set_option linter.unusedSimpArgs false
set_option linter.unusedVariables false
abbrev Fr := Nat → Value
def upd (f : Fr) (d : Nat) (v : Value) : Fr := fun t => bif Nat.beq t d then v else f t
def ev (f : Fr) : Operand → Value
 | .tmp t => f t
 | .const v => v
 | .global g => .pointer (some ⟨g, 0, none⟩)
 | .func k => .func (.func k) #[] #[]
structure Zg5 (n : Nat) (a : Act) (f : Fr) : Prop where
 size : a.tmps.size = n
 defers : a.defers = []
 slots : ∀ t, a.tmps.getD t undef = f t
theorem Zg5.eval {n : Nat} {a : Act} {f : Fr} (h : Zg5 n a f) : a.eval = ev f := by
 funext x
 cases x with
 | tmp t => exact h.slots t
 | _ => rfl
theorem Zg5.put {n : Nat} {a : Act} {f : Fr} (h : Zg5 n a f) {d : Nat} (hd : Nat.blt d n = true) (v : Value) : Zg5 n (a.put (some d) v) (upd f d v) := by
 have hd' : d < n := by simpa [Nat.blt_eq] using hd
 refine ⟨by simp [Act.put, h.size], h.defers, fun t => ?_⟩
 unfold upd
 by_cases e : t = d
 subst e
 have : t < a.tmps.size := by rw [h.size]; exact hd'
 simp [Act.put, Array.getD_eq_getD_getElem?, this]
 have hb : Nat.beq t d = false := by
  cases hq : Nat.beq t d with
  | false => rfl
  | true => exact absurd (Nat.eq_of_beq_eq_true hq) e
 rw [hb]
 have := h.slots t
 simp only [Act.put, Array.getD_eq_getD_getElem?, cond_false]
 rw [Array.getElem?_setIfInBounds_ne (fun h => e h.symm)]
 simpa [Array.getD_eq_getD_getElem?] using this
def Run (P : Program) (n : Nat) (g : FuncId) (R : Ending → World → Prop) (K : List Item) (f : Fr) (w : World) : Prop :=
 ∀ a, Zg5 n a f → ∀ (b : Frame) (cs : List Frame), b.fn = g → b.kind = .normal →
  ∃ e w' fr, R e w' ∧ Comes P (lone (b.at a K) cs w) (lone fr cs w') e ∧ fr.fn = g ∧ fr.leaving P w' e
section
variable {P : Program} {n : Nat} {g : FuncId} {R : Ending → World → Prop} {K : List Item} {f : Fr} {w : World}
theorem X0 {fn : Func} {c : Code} {args : Array Value} (hf : P.funcs[g]? = some fn) (hb : fn.body = some c) (hn : fn.ntmps = n) (hs : Nat.ble args.size n = true)
 (h : Run P n g R [.code c] (fun t => args.toList.getD t undef) w) : Calls P g args w R := by
 intro cs
 let b : Frame := { (default : Frame) with fn := g, kind := .normal }
 have henter : Frame.enter P g args .normal =
  b.at { tmps := args ++ Array.replicate (fn.ntmps - args.size) undef, defers := [] } [.code c] := by
  simp [Frame.enter, Frame.at, hf, hb, b]
 rw [henter]
 have hs' : args.size ≤ n := by simpa [Nat.ble_eq] using hs
 refine h _ ⟨?_, rfl, fun t => ?_⟩ b cs rfl rfl
 simp [hn]; omega
 simp only [Array.getD_eq_getD_getElem?, List.getD_eq_getElem?_getD]
 rw [Array.getElem?_append]
 split
 simp
 rename_i hlt
 rw [Array.getElem?_replicate]
 have : args.toList[t]? = none := by simp; omega
 rw [this]
 split <;> rfl
theorem Zx0 {K' : List Item} (hs : ∀ (b : Frame) (a : Act) (cs : List Frame), Zg5 n a f → step P (lone (b.at a K) cs w) = .next (lone (b.at a K') cs w))
 (h : Run P n g R K' f w) : Run P n g R K f w := by
 intro a ha b cs hb hk
 obtain ⟨e, w', fr, hR, hc, hf, hl⟩ := h a ha b cs hb hk
 exact ⟨e, w', fr, hR, .of_steps (.one (hs b a cs ha)) hc, hf, hl⟩
theorem Z1 {x y : Code} (h : Run P n g R (.code x :: .code y :: K) f w) : Run P n g R (.code (.seq x y) :: K) f w :=
 Zx0 (fun _ _ _ _ => step_seq) h
theorem Y6 (h : Run P n g R K f w) : Run P n g R (.code .skip :: K) f w :=
 Zx0 (fun _ _ _ _ => step_skip) h
theorem Y8 {id : Nat} {c : Code} (h : Run P n g R (.code c :: .inBlock id :: K) f w) : Run P n g R (.code (.block id c) :: K) f w :=
 Zx0 (fun _ _ _ _ => step_block) h
theorem X1 {id : Nat} (h : Run P n g R K f w) : Run P n g R (.inBlock id :: K) f w :=
 Zx0 (fun _ _ _ _ => step_inBlock) h
theorem Wf2 {c : Code} (h : Run P n g R (.code c :: .inLoop c :: K) f w) : Run P n g R (.inLoop c :: K) f w :=
 Zx0 (fun _ _ _ _ => step_inLoop) h
theorem Wr4 {c : Code} (h : Run P n g R (.code c :: .inLoop c :: K) f w) : Run P n g R (.code (.loop c) :: K) f w :=
 Zx0 (fun _ _ _ _ => step_loop) h
theorem X7 {id : Nat} {K' : List Item} (he : exitTo id K = some K') (h : Run P n g R K' f w) : Run P n g R (.code (.exit id) :: K) f w :=
 Zx0 (fun _ _ _ _ => step_exit he) h
theorem Xw4 {c : Operand} {x y : Code} {t : Bool} (hc : ev f c = .bool t) (ht : t = true → Run P n g R (.code x :: K) f w) (hf : t = false → Run P n g R (.code y :: K) f w) :
 Run P n g R (.code (.cond c x y) :: K) f w := by
 refine Zx0 (K' := .code (if t then x else y) :: K) (fun b a cs ha => step_cond (by rw [ha.eval]; exact hc)) ?_
 cases t
 exact hf rfl
 exact ht rfl
theorem Z8 {c : Operand} {x y : Code} (hc : ev f c = .bool true) (h : Run P n g R (.code x :: K) f w) : Run P n g R (.code (.cond c x y) :: K) f w :=
 Xw4 hc (fun _ => h) (fun h => by cases h)
theorem Z7 {c : Operand} {x y : Code} (hc : ev f c = .bool false) (h : Run P n g R (.code y :: K) f w) : Run P n g R (.code (.cond c x y) :: K) f w :=
 Xw4 hc (fun h => by cases h) (fun _ => h)
def Yx4 (P : Program) (w : World) (f : Fr) : List ResultVar → List Value → Prop
 | [], [] => True
 | .tmp t :: rs, v :: vs => f t = v ∧ Yx4 P w f rs vs
 | .cell a t :: rs, v :: vs => (∃ ad, f a = .pointer (some ad) ∧ (loadVar t ad).run P w = .ok v w) ∧ Yx4 P w f rs vs
 | _, _ => False
def Xf6 : List Value → Value
 | [v] => v
 | vs => .tuple vs.toArray
theorem I6 {α β : Type} {e : Sem α} {k : α → Sem β} {w w' : World} {a : α} (h : e.run P w = .ok a w') : (e >>= k).run P w = (k a).run P w' := by
 rw [Sem.run_bind, h]; rfl
theorem Yj9 {a : Act} (ha : Zg5 n a f) : ∀ (rs : List ResultVar) (vs : List Value), Yx4 P w f rs vs →
 ((rs.mapM fun (x : ResultVar) => match x with
  | .tmp t => (pure (a.tmps.getD t undef) : Sem Value)
  | .cell ad t => do loadVar t (← asAddr (a.tmps.getD ad undef))).run P w) = .ok vs w
 | [], [], _ => rfl
 | .tmp t :: rs, v :: vs, h => by
  have ih := Yj9 ha rs vs h.2
  rw [List.mapM_cons]
  have h1 : ((pure (a.tmps.getD t undef) : Sem Value)).run P w = .ok v w := by
   rw [ha.slots t, h.1]; rfl
  rw [I6 h1, I6 ih]; rfl
 | .cell ad t :: rs, v :: vs, h => by
  have ih := Yj9 ha rs vs h.2
  obtain ⟨p, hp, hl⟩ := h.1
  rw [List.mapM_cons]
  have h1 : (do loadVar t (← asAddr (a.tmps.getD ad undef)) : Sem Value).run P w = .ok v w := by
   rw [ha.slots ad, hp]; exact hl
  rw [I6 h1, I6 ih]; rfl
 | [], _ :: _, h => h.elim
 | .tmp _ :: _, [], h => h.elim
 | .cell _ _ :: _, [], h => h.elim
theorem Xa1 {a : Act} (ha : Zg5 n a f) {fn : Func} {vs : List Value} (h : Yx4 P w f fn.results.toList vs) :
 (results fn a.tmps).run P w = .ok (Xf6 vs) w := by
 unfold results
 rw [Array.mapM_eq_mapM_toList]
 simp only [Sem.run_bind, Sem.run_map]
 refine (congrArg (fun (r : Result (List Value)) => (r.andThen fun a w' => Result.ok a.toArray w').andThen fun vs w' => Sem.run P (pure (if h : vs.size = 1 then vs[0] else .tuple vs)) w') (Yj9 (P := P) ha _ _ h)).trans ?_
 simp only [Result.andThen_ok]
 cases vs with
 | nil => rfl
 | cons v vs =>
  cases vs with
  | nil => rfl
  | cons u us => simp [Xf6]
theorem Y9 {fn : Func} {vs : List Value} (hf : P.funcs[g]? = some fn) (h : Yx4 P w f fn.results.toList vs) (hR : R (.returned (Xf6 vs)) w) :
 Run P n g R (.code .ret :: K) f w := by
 intro a ha b cs hb hk
 exact ⟨.returned _, w, _, hR, .one step_ret, hb, rfl, ha.defers, hk, fn, by simpa [Frame.at, hb] using hf, Xa1 ha h⟩
theorem Yo7 {fn : Func} {vs : List Value} (hf : P.funcs[g]? = some fn) (h : Yx4 P w f fn.results.toList vs) (hR : R (.returned (Xf6 vs)) w) :
 Run P n g R [] f w := by
 intro a ha b cs hb hk
 exact ⟨.returned _, w, _, hR, .one step_end, hb, rfl, ha.defers, hk, fn, by simpa [Frame.at, hb] using hf, Xa1 ha h⟩
def X6 (P : Program) (n : Nat) (ops : Array Oper) (J : Fr → World → Prop) (l : List Oper) (f : Fr) (w : World) : Prop :=
 ∀ a, Zg5 n a f → wpList P ops (fun e a' w' => e = .normal ∧ ∃ f', Zg5 n a' f' ∧ J f' w') l a w
theorem Z0 {id : Nat} {l : List Oper} (h : X6 P n l.toArray (fun f' w' => Run P n g R K f' w') l f w) : Run P n g R (.code (.region id l.toArray false) :: K) f w := by
 intro a ha b cs hb hk
 obtain ⟨e, a', w', ⟨rfl, f', ha', hJ⟩, harr⟩ := wp_region_lit (id := id) (h a ha) b K cs
 obtain ⟨e, w'', fr, hR, hc, hf, hl⟩ := hJ a' ha' b cs hb hk
 exact ⟨e, w'', fr, hR, .of_steps harr hc, hf, hl⟩
end
section
variable {P : Program} {n : Nat} {ops : Array Oper} {J : Fr → World → Prop} {r : List Oper} {f : Fr} {w : World}
theorem Z2 (h : J f w) : X6 P n ops J [] f w := fun _ ha => ⟨rfl, f, ha, h⟩
theorem V6 {o : Oper} {d : Nat} {v : Value} {w' : World} (hg : o.guard = none) (hd : o.dst = some d) (hn : Nat.blt d n = true)
 (hr : (execOp (ev f) o).run P w = .ok (.value v) w') (k : X6 P n ops J r (upd f d v) w') : X6 P n ops J (o :: r) f w := by
 intro a ha
 unfold wpList
 rw [if_pos (by simp [Region.wanted, hg])]
 left
 unfold Oper.wp
 rw [ha.eval, hr, Oper.upon_value, hd]
 exact k _ (ha.put hn v)
theorem Wq7 {o : Oper} {v : Value} {w' : World} (hg : o.guard = none) (hd : o.dst = none)
 (hr : (execOp (ev f) o).run P w = .ok (.value v) w') (k : X6 P n ops J r f w') : X6 P n ops J (o :: r) f w := by
 intro a ha
 unfold wpList
 rw [if_pos (by simp [Region.wanted, hg])]
 left
 unfold Oper.wp
 rw [ha.eval, hr, Oper.upon_value, hd]
 exact k _ ha
theorem Yk3 {o : Oper} {w' : World} (hg : o.guard = none) (hd : o.dst = none)
 (hr : (execOp (ev f) o).run P w = .ok .skip w') (k : X6 P n ops J r f w') : X6 P n ops J (o :: r) f w := by
 intro a ha
 unfold wpList
 rw [if_pos (by simp [Region.wanted, hg])]
 left
 unfold Oper.wp
 rw [ha.eval, hr, Oper.upon_skip, hd]
 exact k _ ha
theorem Xc6 {o : Oper} {d : Nat} {fid : FuncId} {args : Array Value} (hg : o.guard = none) (hd : o.dst = some d) (hn : Nat.blt d n = true)
 (hr : (execOp (ev f) o).run P w = .ok (.enter fid args) w) {C : Ending → World → Prop} (hc : Calls P fid args w C)
 (k : ∀ e w', C e w' → ∃ v, e = .returned v ∧ X6 P n ops J r (upd f d v) w') : X6 P n ops J (o :: r) f w := by
 intro a ha
 unfold wpList
 rw [if_pos (by simp [Region.wanted, hg])]
 left
 unfold Oper.wp
 rw [ha.eval, hr, Oper.upon_enter, hd]
 refine hc.mono fun e w' h => ?_
 obtain ⟨v, rfl, hk⟩ := k e w' h
 exact hk _ (ha.put hn v)
theorem Xf7 {a : Act} (ha : Zg5 n a f) {j : Nat} {d : Nat} {b : Bool} (hj : (ops[j]?).bind (·.dst) = some d) (hv : f d = .bool b) : yielded ops a.tmps j = some b := by
 unfold yielded
 rw [hj]
 simp only [Option.bind_some]
 have h := ha.slots d
 rw [hv, Array.getD_eq_getD_getElem?] at h
 cases hq : a.tmps[d]? with
 | none => rw [hq] at h; simp [undef] at h
 | some v => rw [hq] at h; simp at h; subst h; rfl
theorem Y1 {o : Oper} {j d : Nat} {b : Bool} (hg : o.guard = some (j, b)) (hj : (ops[j]?).bind (·.dst) = some d) (hv : f d = .bool b)
 (k : X6 P n ops J ({ o with guard := none } :: r) f w) : X6 P n ops J (o :: r) f w := by
 intro a ha
 have := k a ha
 unfold wpList at this ⊢
 rw [if_pos (by simp [Region.wanted])] at this
 rw [if_pos (by simp [Region.wanted, hg, Xf7 ha hj hv])]
 exact this
theorem Z9 {o : Oper} {j d e : Nat} {b b' : Bool} (hg : o.guard = some (j, b)) (hj : (ops[j]?).bind (·.dst) = some d) (hv : f d = .bool b') (hb : (b' == b) = false)
 (hd : o.dst = some e) (hn : Nat.blt e n = true) (k : X6 P n ops J r (upd f e undef) w) : X6 P n ops J (o :: r) f w := by
 intro a ha
 unfold wpList
 rw [if_neg (by simp [Region.wanted, hg, Xf7 ha hj hv]; simpa using hb), hd]
 exact k _ (ha.put hn undef)
end
abbrev Yk4 := (Nat → Option Obj) → Obj → Prop
structure Kp where
 I : Yk4
 J : (Nat → Option Yk4) → Obj → Prop
 fc : Nat → Option Value
 lb : Bool
def Kp.pl (I : Yk4) : Kp := ⟨I, fun _ _ => True, fun _ => none, false⟩
def Kp.Le (e e' : Kp) : Prop := e' = e ∨ (e.lb = true ∧ e'.I = e.I ∧ e'.J = e.J ∧ e'.lb = true ∧ ∀ i v, e.fc i = some v → e'.fc i = some v)
theorem Kp.Le.refl (e : Kp) : e.Le e := .inl rfl
theorem Kp.Le.trans {a b c : Kp} (h : a.Le b) (h' : b.Le c) : a.Le c := by
 rcases h with rfl | ⟨h1, h2, h3, h4, h5⟩
 exact h'
 rcases h' with rfl | ⟨k1, k2, k3, k4, k5⟩
 exact .inr ⟨h1, h2, h3, h4, h5⟩
 exact .inr ⟨h1, k2.trans h2, k3.trans h3, k4, fun i v e => k5 i v (h5 i v e)⟩
theorem Kp.Le.pl {I : Yk4} {e : Kp} (h : (Kp.pl I).Le e) : e = Kp.pl I := by
 rcases h with h | ⟨h, _⟩
 exact h
 cases h
structure FH where
 fr : Nat → Option Obj
 memo : Nat → Option Kp
 base : Option ((Nat → Question → Nat) × Os × Array (Nat × ByteArray) × Nat × Nat)
instance : CoeFun FH (fun _ => Nat → Option Obj) := ⟨FH.fr⟩
abbrev OL := List (Nat × Obj)
def FH.lim (H : FH) : Nat := match H.base with | none => 0 | some t => t.2.2.2.2
def nz : Obj → Prop
 | .cells _ _ z => z = (0, 0)
 | _ => True
def Sub (H H' : FH) : Prop := (∀ b o, H b = some o → H' b = some o) ∧ (∀ b i, H.memo b = some i → ∃ i', H'.memo b = some i' ∧ i.Le i') ∧ H'.base = H.base
theorem Sub.refl (H : FH) : Sub H H := ⟨fun _ _ h => h, fun _ i h => ⟨i, h, .refl i⟩, rfl⟩
theorem Sub.trans {H H' H'' : FH} (h : Sub H H') (h' : Sub H' H'') : Sub H H'' := ⟨fun b o e => h'.1 b o (h.1 b o e), fun b o e => (let ⟨_, e1, l1⟩ := h.2.1 b o e; let ⟨i, e2, l2⟩ := h'.2.1 b _ e1; ⟨i, e2, l1.trans l2⟩), h'.2.2.trans h.2.2⟩
theorem Sub.memoPl {H H' : FH} (h : Sub H H') {b : Nat} {I : Yk4} (e : H.memo b = some (.pl I)) : H'.memo b = some (.pl I) := by
 obtain ⟨i, e1, l⟩ := h.2.1 b _ e
 rw [l.pl] at e1; exact e1
def FH.lab (H : FH) : Nat → Option Yk4 := fun b => (H.memo b).bind fun e => bif e.lb then some e.I else none
def Vg6 (G G' : Nat → Option Yk4) : Prop := ∀ b i, G b = some i → G' b = some i
theorem Sub.lab {H H' : FH} (h : Sub H H') : Vg6 H.lab H'.lab := by
 intro b i e
 unfold FH.lab at e ⊢
 cases hm : H.memo b with
 | none => rw [hm] at e; cases e
 | some k =>
  rw [hm] at e
  obtain ⟨k', e1, l⟩ := h.2.1 b k hm
  rw [e1]
  rcases l with rfl | ⟨h1, h2, h3, h4, _⟩
  exact e
  simp only [Option.bind_some, h1, cond_true] at e
  simp only [Option.bind_some, h4, cond_true, h2]; exact e
def Yv6 (F F' : Nat → Option Obj) : Prop := ∀ b o, F b = some o → F' b = some o
def Vi3 (I : Yk4) : Prop := ∀ F F' o, Yv6 F F' → I F o → I F' o
def Vh5 (J : (Nat → Option Yk4) → Obj → Prop) : Prop := ∀ G G' o, Vg6 G G' → J G o → J G' o
def Stl (fc : Nat → Option Value) (o : Obj) : Prop := ∀ i v, fc i = some v → ∃ cs E z, o = .cells cs E z ∧ cs[i]? = some v
structure St (H : FH) (w : World) (L : OL) : Prop where
 froz : ∀ b o, H b = some o → w.heap[b]? = some o
 memo : ∀ b e, H.memo b = some e → H b = none ∧ (Vi3 e.I ∧ Vh5 e.J) ∧ ∃ o, w.heap[b]? = some o ∧ e.I H.fr o ∧ e.J H.lab o ∧ Stl e.fc o
 rest : ∀ t, H.base = some t → w.tape = t.1 ∧ w.os = t.2.1 ∧ w.output = t.2.2.1 ∧ t.2.2.2.1 ≤ w.drawn
 nofz : ∀ b o, H b = some o → H.lim ≤ b → nz o
 own : ∀ x, x ∈ L → w.heap[x.1]? = some x.2
 nodup : (L.map Prod.fst).Nodup
 apart : ∀ x, x ∈ L → H x.1 = none ∧ H.memo x.1 = none
section
variable {H : FH} {w : World} {L A B C : OL} {b : Nat} {o o' : Obj}
theorem Zg0 {w : World} {b : Nat} {o : Obj} (h : w.heap[b]? = some o) : b < w.heap.size := by
 rcases Nat.lt_or_ge b w.heap.size with h' | h'
 exact h'
 simp [Array.getElem?_eq_none h'] at h
theorem St.hd (h : St H w ((b, o) :: L)) : w.heap[b]? = some o := h.own (b, o) (List.mem_cons_self ..)
theorem St.tl {x : Nat × Obj} (h : St H w (x :: L)) : St H w L :=
 ⟨h.froz, h.memo, h.rest, h.nofz, fun y hy => h.own y (List.mem_cons_of_mem _ hy), (List.nodup_cons.1 h.nodup).2, fun y hy => h.apart y (List.mem_cons_of_mem _ hy)⟩
theorem St.sub (h : St H w L) (hp : ∀ x, x ∈ A → x ∈ L) (hn : (A.map Prod.fst).Nodup) : St H w A :=
 ⟨h.froz, h.memo, h.rest, h.nofz, fun y hy => h.own y (hp y hy), hn, fun y hy => h.apart y (hp y hy)⟩
theorem St.perm (h : St H w L) (hp : A.Perm L) : St H w A :=
 h.sub (fun x hx => hp.mem_iff.1 hx) ((hp.map Prod.fst).nodup_iff.2 h.nodup)
theorem St.dropA (h : St H w (A ++ L)) : St H w L := by
 refine h.sub (fun x hx => List.mem_append_right _ hx) ?_
 have := h.nodup
 rw [List.map_append] at this
 exact (List.nodup_append.1 this).2.1
theorem St.swap (h : St H w (A ++ (B ++ C))) : St H w (B ++ (A ++ C)) := by
 refine h.perm ?_
 rw [← List.append_assoc, ← List.append_assoc]
 exact List.perm_append_comm.append_right C
theorem St.drew (h : St H w L) : St H w.drew L := ⟨h.froz, h.memo, fun t ht => let ⟨a, b, c, d⟩ := h.rest t ht; ⟨a, b, c, Nat.le_succ_of_le d⟩, h.nofz, h.own, h.nodup, h.apart⟩
theorem St.alloc (h : St H w L) (o : Obj) : St H (w.alloc o) ((w.heap.size, o) :: L) := by
 have hlt : ∀ b o', w.heap[b]? = some o' → (w.alloc o).heap[b]? = some o' := fun b o' hb => by
  have := Zg0 hb
  show (w.heap.push o)[b]? = some o'
  rw [Array.getElem?_push, if_neg (by omega)]; exact hb
 refine ⟨fun b o' hb => hlt b o' (h.froz b o' hb), fun b I hb => let ⟨h1, h2, o', h3, h4⟩ := h.memo b I hb; ⟨h1, h2, o', hlt b o' h3, h4⟩, h.rest, h.nofz, ?_, ?_, ?_⟩
 intro x hx
 rcases List.mem_cons.1 hx with rfl | hx
 show (w.heap.push o)[w.heap.size]? = some o
 simp
 exact hlt _ _ (h.own x hx)
 rw [List.map_cons, List.nodup_cons]
 refine ⟨?_, h.nodup⟩
 intro hm
 obtain ⟨x, hx, he⟩ := List.mem_map.1 hm
 have := Zg0 (h.own x hx)
 simp only at he
 omega
 intro x hx
 rcases List.mem_cons.1 hx with rfl | hx
 constructor
 cases hH : H w.heap.size with
 | none => rfl
 | some o' => have := Zg0 (h.froz _ _ hH); omega
 cases hH : H.memo w.heap.size with
 | none => rfl
 | some I => obtain ⟨_, _, o', h3, _⟩ := h.memo _ _ hH; have := Zg0 h3; omega
 exact h.apart x hx
theorem St.put (h : St H w ((b, o) :: L)) (o' : Obj) : St H { w with heap := w.heap.setIfInBounds b o' } ((b, o') :: L) := by
 have hb := Zg0 h.hd
 have hnd := List.nodup_cons.1 h.nodup
 have hne : ∀ c, H c ≠ none ∨ H.memo c ≠ none → b ≠ c := by
  rintro c hc rfl
  have := h.apart _ (List.mem_cons_self ..)
  exact hc.elim (fun h => h this.1) (fun h => h this.2)
 refine ⟨fun c p hc => ?_, fun c I hc => ?_, h.rest, h.nofz, ?_, h.nodup, ?_⟩
 simp only [Array.getElem?_setIfInBounds]
 rw [if_neg (hne c (.inl (by rw [hc]; simp)))]; exact h.froz c p hc
 obtain ⟨h1, h2, p, h3, h4⟩ := h.memo c I hc
 refine ⟨h1, h2, p, ?_, h4⟩
 simp only [Array.getElem?_setIfInBounds]
 rw [if_neg (hne c (.inr (by rw [hc]; simp)))]; exact h3
 intro x hx
 simp only [Array.getElem?_setIfInBounds]
 rcases List.mem_cons.1 hx with rfl | hx
 simp [hb]
 have hne : b ≠ x.1 := by
  intro e
  exact hnd.1 (List.mem_map.2 ⟨x, hx, e.symm⟩)
 rw [if_neg hne]; exact h.own x (List.mem_cons_of_mem _ hx)
 intro x hx
 rcases List.mem_cons.1 hx with rfl | hx
 exact h.apart (b, o) (List.mem_cons_self ..)
 exact h.apart x (List.mem_cons_of_mem _ hx)
def FH.add (H : FH) (b : Nat) (o : Obj) : FH := ⟨fun c => if c = b then some o else H c, H.memo, H.base⟩
theorem Yv6.add {H : FH} {b : Nat} {o : Obj} (hn : H b = Option.none) : Yv6 H.fr (H.add b o).fr := by
 intro c p hc
 show (if c = b then some o else H c) = some p
 split
 rename_i e; subst e; rw [hn] at hc; cases hc
 exact hc
theorem Sub.add {H : FH} {b : Nat} {o : Obj} (hn : H b = Option.none) : Sub H (H.add b o) := ⟨Yv6.add hn, fun _ i h => ⟨i, h, .refl i⟩, rfl⟩
theorem FH.add_self (H : FH) (b : Nat) (o : Obj) : (H.add b o) b = some o := by show (if b = b then some o else H b) = some o; rw [if_pos rfl]
theorem St.none (h : St H w ((b, o) :: L)) : H b = Option.none := (h.apart (b, o) (List.mem_cons_self ..)).1
theorem St.freeze (h : St H w ((b, o) :: L)) (hz : nz o := by first | exact rfl | trivial) : St (H.add b o) w L := by
 have hnd := List.nodup_cons.1 h.nodup
 refine ⟨fun c p hc => ?_, fun c I hc => ?_, h.rest, fun c p hc hl => ?_, h.tl.own, hnd.2, fun x hx => ?_⟩
 replace hc : (if c = b then some o else H c) = some p := hc
 split at hc
 rename_i e; subst e; cases hc; exact h.hd
 exact h.froz c p hc
 obtain ⟨h1, h2, p, h3, h4⟩ := h.memo c I hc
 refine ⟨?_, h2, p, h3, h2.1 _ _ _ (Yv6.add h.none) h4.1, h4.2⟩
 show (if c = b then some o else H c) = Option.none
 rw [if_neg]
 exact h1
 rintro rfl
 have := (h.apart (c, o) (List.mem_cons_self ..)).2
 simp only at this
 replace hc : H.memo c = some I := hc
 rw [this] at hc; cases hc
 replace hc : (if c = b then some o else H c) = some p := hc
 split at hc
 cases hc; exact hz
 exact h.nofz c p hc hl
 refine ⟨?_, (h.tl.apart x hx).2⟩
 show (if x.1 = b then some o else H x.1) = Option.none
 split
 rename_i e; exact absurd (List.mem_map.2 ⟨x, hx, e⟩) hnd.1
 exact (h.tl.apart x hx).1
theorem St.noneM (h : St H w ((b, o) :: L)) : H.memo b = Option.none := (h.apart (b, o) (List.mem_cons_self ..)).2
end
structure TyI (P : Program) (T : TypeId) (agg : Bool) (size : Nat) : Prop where
 isAgg : ∀ w, (Go.isAgg T).run P w = .ok agg w
 sizeOf : ∀ w, (Go.sizeOf T).run P w = .ok size w
section
variable {P : Program} {n : Nat} {ops : Array Oper} {J : Fr → World → Prop} {r : List Oper} {f : Fr} {w : World} {d : Nat} {T : TypeId} {pos : String} {af : Array Edge}
theorem Z3 {x : Operand} (v : Value) (hx : ev f x = v) (hn : Nat.blt d n = true) (k : X6 P n ops J r (upd f d v) w) :
 X6 P n ops J (⟨some d, .move x, T, pos, af, none⟩ :: r) f w :=
 V6 rfl rfl hn (by rw [← hx]; rfl) k
theorem Z5 {x : Operand} (v : Value) (hx : ev f x = v) (hn : Nat.blt d n = true) (k : X6 P n ops J r (upd f d v) w) :
 X6 P n ops J (⟨some d, .assign x, T, pos, af, none⟩ :: r) f w :=
 V6 rfl rfl hn (by rw [← hx]; rfl) k
theorem W6 {c x y : Operand} {t : Bool} (v : Value) (hc : ev f c = .bool t) (hv : (if t = true then ev f x else ev f y) = v) (hn : Nat.blt d n = true) (k : X6 P n ops J r (upd f d v) w) :
 X6 P n ops J (⟨some d, .pick c x y, T, pos, af, none⟩ :: r) f w :=
 V6 rfl rfl hn (by rw [← hv]; cases t <;> simp [execOp, hc, asBool]) k
theorem W2 {X Y : TypeId} {x y : Operand} {k : IntKind} {a b : Int} (v : Int) (hx : ev f x = .int k a) (hy : ev f y = .int k b) (hv : k.wrap (a + b) = v) (hn : Nat.blt d n = true)
 (K : X6 P n ops J r (upd f d (.int k v)) w) : X6 P n ops J (⟨some d, .binOp .add X x y Y, T, pos, af, none⟩ :: r) f w :=
 V6 rfl rfl hn (by rw [← hv]; simp [execOp, hx, hy, eqGuard, binOp, Op.intArith]) K
theorem Zk8 {X Y : TypeId} {x y : Operand} {k : IntKind} {a b : Int} (v : Int) (hx : ev f x = .int k a) (hy : ev f y = .int k b) (hv : k.wrap (a - b) = v) (hn : Nat.blt d n = true)
 (K : X6 P n ops J r (upd f d (.int k v)) w) : X6 P n ops J (⟨some d, .binOp .sub X x y Y, T, pos, af, none⟩ :: r) f w :=
 V6 rfl rfl hn (by rw [← hv]; simp [execOp, hx, hy, eqGuard, binOp, Op.intArith]) K
theorem Zg4 {X Y : TypeId} {x y : Operand} {k : IntKind} {a b : Int} (v : Int) (hx : ev f x = .int k a) (hy : ev f y = .int k b) (hv : k.wrap (a * b) = v) (hn : Nat.blt d n = true)
 (K : X6 P n ops J r (upd f d (.int k v)) w) : X6 P n ops J (⟨some d, .binOp .mul X x y Y, T, pos, af, none⟩ :: r) f w :=
 V6 rfl rfl hn (by rw [← hv]; simp [execOp, hx, hy, eqGuard, binOp, Op.intArith]) K
theorem Zc1 {X Y : TypeId} {x y : Operand} {k : IntKind} {a b : Int} (v : Int) (hx : ev f x = .int k a) (hy : ev f y = .int k b) (h0 : b ≠ 0) (hv : a.tmod b = v) (hn : Nat.blt d n = true)
 (K : X6 P n ops J r (upd f d (.int k v)) w) : X6 P n ops J (⟨some d, .binOp .rem X x y Y, T, pos, af, none⟩ :: r) f w :=
 V6 rfl rfl hn (by rw [← hv]; simp [execOp, hx, hy, eqGuard, binOp, Op.intDiv, h0]) K
theorem Xq0 {X Y : TypeId} {x y : Operand} {k : IntKind} {a b : Int} (v : Int) (hx : ev f x = .int k a) (hy : ev f y = .int k b) (h0 : b ≠ 0) (hv : k.wrap (a.tdiv b) = v) (hn : Nat.blt d n = true)
 (K : X6 P n ops J r (upd f d (.int k v)) w) : X6 P n ops J (⟨some d, .binOp .quo X x y Y, T, pos, af, none⟩ :: r) f w :=
 V6 rfl rfl hn (by rw [← hv]; simp [execOp, hx, hy, eqGuard, binOp, Op.intDiv, h0]) K
theorem W8 {X Y : TypeId} {x y : Operand} {k : IntKind} {a b : Int} (hx : ev f x = .int k a) (hy : ev f y = .int k b) (hn : Nat.blt d n = true)
 (K : X6 P n ops J r (upd f d (.bool (decide (a < b)))) w) : X6 P n ops J (⟨some d, .binOp .lss X x y Y, T, pos, af, none⟩ :: r) f w :=
 V6 rfl rfl hn (by simp [execOp, hx, hy, eqGuard, binOp, Op.intCmp]) K
theorem Yh6 {X Y : TypeId} {x y : Operand} {k : IntKind} {a b : Int} (hx : ev f x = .int k a) (hy : ev f y = .int k b) (hn : Nat.blt d n = true)
 (K : X6 P n ops J r (upd f d (.bool (decide (a ≤ b)))) w) : X6 P n ops J (⟨some d, .binOp .leq X x y Y, T, pos, af, none⟩ :: r) f w :=
 V6 rfl rfl hn (by simp [execOp, hx, hy, eqGuard, binOp, Op.intCmp]) K
theorem Za9 {X Y : TypeId} {x y : Operand} {k : IntKind} {a b : Int} (hx : ev f x = .int k a) (hy : ev f y = .int k b) (hn : Nat.blt d n = true)
 (K : X6 P n ops J r (upd f d (.bool (decide (b < a)))) w) : X6 P n ops J (⟨some d, .binOp .gtr X x y Y, T, pos, af, none⟩ :: r) f w :=
 V6 rfl rfl hn (by simp [execOp, hx, hy, eqGuard, binOp, Op.intCmp]) K
theorem Ya0 {X Y : TypeId} {x y : Operand} {k : IntKind} {a b : Int} (hx : ev f x = .int k a) (hy : ev f y = .int k b) (hn : Nat.blt d n = true)
 (K : X6 P n ops J r (upd f d (.bool (decide (b ≤ a)))) w) : X6 P n ops J (⟨some d, .binOp .geq X x y Y, T, pos, af, none⟩ :: r) f w :=
 V6 rfl rfl hn (by simp [execOp, hx, hy, eqGuard, binOp, Op.intCmp]) K
theorem Za0 {X Y : TypeId} {x y : Operand} {k : IntKind} {a b : Int} (hx : ev f x = .int k a) (hy : ev f y = .int k b) (hn : Nat.blt d n = true)
 (K : X6 P n ops J r (upd f d (.bool (decide (a = b)))) w) : X6 P n ops J (⟨some d, .binOp .eql X x y Y, T, pos, af, none⟩ :: r) f w :=
 V6 rfl rfl hn (by simp [execOp, hx, hy, eqGuard, binOp, Op.intCmp]; rfl) K
theorem M0 {X Y : TypeId} {x y : Operand} {k : IntKind} {a b : Int} (hx : ev f x = .int k a) (hy : ev f y = .int k b) (hn : Nat.blt d n = true)
 (K : X6 P n ops J r (upd f d (.bool (!decide (a = b)))) w) : X6 P n ops J (⟨some d, .binOp .neq X x y Y, T, pos, af, none⟩ :: r) f w :=
 V6 rfl rfl hn (by simp [execOp, hx, hy, eqGuard, binOp, Op.intCmp]; rfl) K
theorem N8 {X : TypeId} {x : Operand} {b : Bool} (hx : ev f x = .bool b) (hn : Nat.blt d n = true)
 (K : X6 P n ops J r (upd f d (.bool (!b))) w) : X6 P n ops J (⟨some d, .unOp .not X x, T, pos, af, none⟩ :: r) f w :=
 V6 rfl rfl hn (by simp [execOp, hx, Op.unary]) K
theorem Xq6 {X : TypeId} {x : Operand} {k : IntKind} {a : Int} (v : Int) (hx : ev f x = .int k a) (hv : k.wrap (0 - a) = v) (hn : Nat.blt d n = true)
 (K : X6 P n ops J r (upd f d (.int k v)) w) : X6 P n ops J (⟨some d, .unOp .neg X x, T, pos, af, none⟩ :: r) f w :=
 V6 rfl rfl hn (by rw [← hv]; simp [execOp, hx, Op.unary, Op.intArith]) K
theorem V3 {x : Operand} {i : Nat} {vs : Array Value} (v : Value) (hx : ev f x = .tuple vs) (hv : vs[i]? = some v) (hn : Nat.blt d n = true)
 (K : X6 P n ops J r (upd f d v) w) : X6 P n ops J (⟨some d, .extract x i, T, pos, af, none⟩ :: r) f w :=
 V6 rfl rfl hn (by simp [execOp, hx, Instr.extract, hv]) K
end
/-! memory -/
theorem R7 (b off i : Nat) : (⟨b, off, none⟩ : Addr).add i = ⟨b, off + i, none⟩ := by
 unfold Addr.add; split
 rename_i h; subst h; rfl
 rfl
def World.withBlk (w : World) (b : Nat) (o : Obj) : World := { w with heap := w.heap.setIfInBounds b o }
theorem Xj3 {w : World} {b : Nat} {cs : Array Value} {E : TypeId} {fz : Nat × Nat} (h : w.heap[b]? = some (.cells cs E fz)) (i : Nat) (v : Value) :
 w.setCell ⟨b, i, none⟩ v = World.withBlk w b (.cells (cs.setIfInBounds i v) E fz) := by
 unfold World.setCell World.withBlk
 congr 1
 apply Array.ext_getElem?
 intro j
 rw [Array.getElem?_modify, Array.getElem?_setIfInBounds]
 by_cases e : b = j
 subst e
 have := Zg0 h
 rw [h]
 simp [this]
 simp [e]
theorem Xz1 {w : World} {b : Nat} {o o' : Obj} (h : w.heap[b]? = some o) : (World.withBlk w b o').heap[b]? = some o' := by
 have := Zg0 h
 simp [World.withBlk, this]
theorem Xp9 (w : World) (b : Nat) (o o' : Obj) : World.withBlk (World.withBlk w b o) b o' = World.withBlk w b o' := by
 simp [World.withBlk]
theorem Yd4 {w : World} {b : Nat} {cs : Array Value} {E : TypeId} {fz : Nat × Nat} (h : w.heap[b]? = some (.cells cs E fz)) (i : Nat) :
 w.cell? ⟨b, i, none⟩ = cs[i]? := by
 simp [World.cell?, h]
def D7 (cs : Array Value) (off : Nat) : List Value → Array Value
 | [] => cs
 | v :: vs => D7 (cs.setIfInBounds off v) (off + 1) vs
theorem Zz4 : ∀ (vs : List Value) (cs : Array Value) (off : Nat), (D7 cs off vs).size = cs.size
 | [], _, _ => rfl
 | v :: vs, cs, off => by simp [D7, Zz4 vs]
theorem Zx9 : ∀ (vs : List Value) (cs : Array Value) (off i : Nat), off + vs.length ≤ cs.size →
 (D7 cs off vs)[i]? = if off ≤ i ∧ i < off + vs.length then vs[i - off]? else cs[i]?
 | [], cs, off, i, h => by simp [D7]; omega
 | v :: vs, cs, off, i, h => by
  simp only [List.length_cons] at h
  rw [D7, Zx9 vs _ (off + 1) i (by simp; omega)]
  simp only [List.length_cons]
  by_cases h1 : i = off
  subst h1
  have hi : i < cs.size := by omega
  rw [if_neg (by omega), if_pos (by omega)]
  simp [hi]
  by_cases h2 : off ≤ i ∧ i < off + (vs.length + 1)
  rw [if_pos (by omega), if_pos h2]
  have : i - off = (i - (off + 1)) + 1 := by omega
  rw [this]; simp
  rw [if_neg (by omega), if_neg h2, Array.getElem?_setIfInBounds_ne (by omega)]
theorem Wg1 {vs : List Value} {cs : Array Value} (h : vs.length = cs.size) : D7 cs 0 vs = vs.toArray := by
 apply Array.ext_getElem?
 intro i
 rw [Zx9 vs cs 0 i (by omega)]
 split
 simp
 rw [Array.getElem?_eq_none (by omega)]; simp; omega
theorem Ye1 {P : Program} {b off : Nat} {E : TypeId} : ∀ (vs : List Value) (cs : Array Value) (w : World) (i : Nat), w.heap[b]? = some (.cells cs E (0, 0)) → (∀ v, v ∈ vs → v.oneCell' = true) →
 off + i + vs.length ≤ cs.size → (storeCells ⟨b, off, none⟩ vs i).run P w = .ok () (if vs = [] then w else World.withBlk w b (.cells (D7 cs (off + i) vs) E (0, 0)))
 | [], cs, w, i, h, _, _ => by simp [storeCells]
 | v :: vs, cs, w, i, h, hv, hl => by
  simp only [List.length_cons] at hl
  have hlt : off + i < cs.size := by omega
  unfold storeCells
  rw [Sem.run_bind, R7, run_store P w _ _ _ (hv v (List.mem_cons_self ..)), Yd4 h]
  have hc : cs[off + i]? = some cs[off + i] := by simp [hlt]
  rw [hc]
  have hfz : w.frozen? ⟨b, off + i, none⟩ = false := by simp [World.frozen?, h]
  rw [hfz]
  simp only [Bool.false_eq_true, if_false, Result.andThen_ok]
  rw [Xj3 h]
  have ih := Ye1 (P := P) (b := b) (off := off) (E := E) vs (cs.setIfInBounds (off + i) v) (World.withBlk w b (.cells (cs.setIfInBounds (off + i) v) E (0, 0))) (i + 1) (Xz1 h) (fun u hu => hv u (List.mem_cons_of_mem _ hu)) (by simp; omega)
  rw [ih]
  rw [if_neg (by simp : ¬ (v :: vs = []))]
  by_cases e : vs = []
  subst e; simp [D7]
  rw [if_neg e, Xp9]; rfl
theorem St.withBlk {H : FH} {w : World} {L : OL} {b : Nat} {o : Obj} (h : St H w ((b, o) :: L)) (o' : Obj) : St H (World.withBlk w b o') ((b, o') :: L) := h.put o'
abbrev vP (b : Nat) : Value := .pointer (some ⟨b, 0, none⟩)
abbrev vI (x : Int) : Value := .int .i64 x
theorem St.get {H : FH} {w : World} {L : OL} {b : Nat} {o : Obj} (h : St H w L) (hm : (b, o) ∈ L) : w.heap[b]? = some o := h.own _ hm
theorem mR {α : Type} {a : α} {A B : List α} (h : a ∈ B) : a ∈ A ++ B := List.mem_append_right _ h
theorem mL {α : Type} {a : α} {B : List α} : a ∈ [a] ++ B := List.mem_cons_self ..
theorem Xn7 {v : Value} (h : v.oneCell' = true) : v.cells = #[v] := by cases v <;> first | rfl | simp [Value.oneCell'] at h
section
variable {P : Program} {n : Nat} {ops : Array Oper} {J : Fr → World → Prop} {r : List Oper} {f : Fr} {w : World} {d : Nat} {T : TypeId} {pos : String} {af : Array Edge} {H : FH} {L : OL}
theorem T7 {E : TypeId} {x : Operand} {v : Value} (cs : Array Value) (hx : ev f x = v) (hc : v.cells = cs) (hS : St H w L) (hn : Nat.blt d n = true)
 (K : ∀ b w', St H w' ([(b, .cells cs E)] ++ L) → X6 P n ops J r (upd f d (.pointer (some ⟨b, 0, none⟩))) w') :
 X6 P n ops J (⟨some d, .box E x, T, pos, af, none⟩ :: r) f w := by
 subst hc
 exact V6 (w' := w.alloc (.cells v.cells E)) rfl rfl hn (by simp [execOp, hx, Instr.box, newVar, newRow]) (K _ _ (hS.alloc _))
theorem U4 {E : TypeId} {z : Value} (cs : Array Value) (hz : ∀ w, (zeroValue E).run P w = .ok z w) (hc : z.cells = cs) (hS : St H w L) (hn : Nat.blt d n = true)
 (K : ∀ b w', St H w' ([(b, .cells cs E)] ++ L) → X6 P n ops J r (upd f d (.pointer (some ⟨b, 0, none⟩))) w') :
 X6 P n ops J (⟨some d, .alloc E, T, pos, af, none⟩ :: r) f w := by
 subst hc
 exact V6 (w' := w.alloc (.cells z.cells E)) rfl rfl hn (by simp [execOp, Instr.alloc, newVar, newRow, hz]) (K _ _ (hS.alloc _))
theorem Yz5 {s b off : Nat} {E : TypeId} {cs : Array Value} {fz : Nat × Nat} (vs : List Value) (t : TyI P T true s)
 (hb : w.heap[b]? = some (.cells cs E fz)) (hl : vs.length = s) (hv : ∀ j, j < s → cs[off + j]? = vs[j]?) :
 (loadVar T ⟨b, off, none⟩).run P w = .ok (.agg vs.toArray) w := by
 subst hl
 have h1 : (loadCells ⟨b, off, none⟩ vs.length).run P w = .ok vs.toArray w :=
  run_loadCells_list w _ vs (fun j v hj => by
   rw [R7, Yd4 hb]
   have hlt : j < vs.length := by
    rcases Nat.lt_or_ge j vs.length with h | h
    exact h
    rw [List.getElem?_eq_none h] at hj; cases hj
   rw [hv j hlt]; exact hj)
 simp [loadVar, t.isAgg, t.sizeOf, h1]
theorem V0 {s b off : Nat} {E : TypeId} {cs : Array Value} {fz : Nat × Nat} {x : Operand} (vs : List Value) (t : TyI P T true s) (hx : ev f x = .pointer (some ⟨b, off, none⟩))
 (hb : w.heap[b]? = some (.cells cs E fz)) (hl : vs.length = s) (hv : ∀ j, j < s → cs[off + j]? = vs[j]?) (hn : Nat.blt d n = true) {T' : TypeId}
 (K : X6 P n ops J r (upd f d (.agg vs.toArray)) w) : X6 P n ops J (⟨some d, .load T x, T', pos, af, none⟩ :: r) f w :=
 V6 rfl rfl hn (by simp [execOp, hx, Instr.loadAt, Instr.sureAddr, Yz5 vs t hb hl hv]) K
theorem W3 {s b : Nat} {E : TypeId} {cs : Array Value} {fz : Nat × Nat} {x : Operand} (t : TyI P T true s) (hx : ev f x = .pointer (some ⟨b, 0, none⟩))
 (hb : w.heap[b]? = some (.cells cs E fz)) (hl : cs.size = s) (hn : Nat.blt d n = true) {T' : TypeId}
 (K : X6 P n ops J r (upd f d (.agg cs)) w) : X6 P n ops J (⟨some d, .load T x, T', pos, af, none⟩ :: r) f w :=
 V0 cs.toList t hx hb (by simpa using hl) (fun j _ => by simp) hn (by simpa using K)
theorem Xz0 {s b off : Nat} {E : TypeId} {cs : Array Value} {fz : Nat × Nat} (v : Value) (t : TyI P T false s)
 (hb : w.heap[b]? = some (.cells cs E fz)) (hv : cs[off]? = some v) : (loadVar T ⟨b, off, none⟩).run P w = .ok v w := by
 have h := Yd4 hb off
 rw [hv] at h
 simp [loadVar, t.isAgg, h]
theorem Y0 {s b off : Nat} {E : TypeId} {cs : Array Value} {fz : Nat × Nat} {x : Operand} (v : Value) (t : TyI P T false s) (hx : ev f x = .pointer (some ⟨b, off, none⟩))
 (hb : w.heap[b]? = some (.cells cs E fz)) (hv : cs[off]? = some v) (hn : Nat.blt d n = true) {T' : TypeId}
 (K : X6 P n ops J r (upd f d v) w) : X6 P n ops J (⟨some d, .load T x, T', pos, af, none⟩ :: r) f w :=
 V6 rfl rfl hn (by simp [execOp, hx, Instr.loadAt, Instr.sureAddr, Xz0 v t hb hv]) K
theorem Xs4 {s b off : Nat} {E : TypeId} {cs : Array Value} {v : Value} {a : Bool} (t : TyI P T a s)
 (hb : w.heap[b]? = some (.cells cs E (0, 0))) (hs : v.cells.size = s) (ho : ∀ u, u ∈ v.cells.toList → u.oneCell' = true) (hl : off + s ≤ cs.size) :
 (storeVar T ⟨b, off, none⟩ v).run P w = .ok () (if v.cells.toList = [] then w else World.withBlk w b (.cells (D7 cs off v.cells.toList) E (0, 0))) := by
 have h := Ye1 (P := P) (b := b) (off := off) (E := E) v.cells.toList cs w 0 hb ho (by simp; omega)
 simp only [Nat.add_zero] at h
 simp [storeVar, t.sizeOf, hs]
 simpa using h
theorem K6 {s b off : Nat} {E : TypeId} {cs cs' : Array Value} {x y : Operand} {v : Value} {a : Bool} (t : TyI P T a s) (hx : ev f x = .pointer (some ⟨b, off, none⟩)) (hy : ev f y = v)
 (hS : St H w ([(b, .cells cs E)] ++ L)) (hs : v.cells.size = s) (ho : ∀ u, u ∈ v.cells.toList → u.oneCell' = true) (hl : off + s ≤ cs.size) (hcs : D7 cs off v.cells.toList = cs') {T' : TypeId}
 (K : ∀ w', St H w' ([(b, .cells cs' E)] ++ L) → X6 P n ops J r f w') : X6 P n ops J (⟨none, .store T x y, T', pos, af, none⟩ :: r) f w := by
 have h := Xs4 (P := P) t (St.hd (L := L) hS) hs ho hl
 rw [hcs] at h
 by_cases e : v.cells.toList = []
 rw [if_pos e] at h
 rw [e] at hcs
 refine Yk3 rfl rfl (w' := w) (by simp [execOp, hx, hy, Instr.storeAt, Instr.sureAddr, h]) (K _ ?_)
 simp only [D7] at hcs
 exact hcs ▸ hS
 rw [if_neg e] at h
 exact Yk3 rfl rfl (by simp [execOp, hx, hy, Instr.storeAt, Instr.sureAddr, h]) (K _ (St.withBlk (L := L) hS _))
theorem W4 {s b : Nat} {E : TypeId} {cs vs : Array Value} {x y : Operand} {a : Bool} {v : Value} (t : TyI P T a s) (hx : ev f x = .pointer (some ⟨b, 0, none⟩)) (hy : ev f y = v) (hvs : v.cells = vs)
 (hS : St H w ([(b, .cells cs E)] ++ L)) (hs : vs.size = s) (ho : ∀ u, u ∈ vs.toList → u.oneCell' = true) (hl : cs.size = s) {T' : TypeId}
 (K : ∀ w', St H w' ([(b, .cells vs E)] ++ L) → X6 P n ops J r f w') : X6 P n ops J (⟨none, .store T x y, T', pos, af, none⟩ :: r) f w := by
 subst hvs
 exact K6 t hx hy hS hs ho (by omega) (by rw [Wg1 (by simp; omega)]) (fun w' h => K w' (by simpa using h))
structure Zk9 (P : Program) (T : TypeId) (i off : Nat) : Prop where
 at_ : ∀ b o w, (Instr.fieldAt T (.pointer (some ⟨b, o, none⟩)) i).run P w = .ok (.pointer (some ⟨b, o + off, none⟩)) w
theorem Y2 {X : TypeId} {x : Operand} {b o i off : Nat} (t : Zk9 P X i off) (hx : ev f x = .pointer (some ⟨b, o, none⟩)) (hn : Nat.blt d n = true)
 (K : X6 P n ops J r (upd f d (.pointer (some ⟨b, o + off, none⟩))) w) : X6 P n ops J (⟨some d, .fieldAddr X x i, T, pos, af, none⟩ :: r) f w :=
 V6 rfl rfl hn (by simp [execOp, hx, t.at_]) K
structure SlI (P : Program) (T E : TypeId) (s : Nat) : Prop where
 under : ∀ w, (underlying T).run P w = .ok (.slice E) w
 sizeOf : ∀ w, (Go.sizeOf E).run P w = .ok s w
structure ArI (P : Program) (T E : TypeId) (len s : Nat) : Prop where
 under : ∀ w, (underlying T).run P w = .ok (.array len E) w
 sizeOf : ∀ w, (Go.sizeOf E).run P w = .ok s w
 isAgg : ∀ w, (Go.isAgg E).run P w = .ok false w
theorem Zf8 {X E : TypeId} {x y : Operand} {b o m c s : Nat} {i : Int} {k : IntKind} (t : SlI P X E s) (hx : ev f x = .slice (some ⟨b, o, none⟩) m c) (hy : ev f y = .int k i) (h0 : 0 ≤ i) (hm : i < m) (hn : Nat.blt d n = true)
 (K : X6 P n ops J r (upd f d (.pointer (some ⟨b, o + i.toNat * s, none⟩))) w) : X6 P n ops J (⟨some d, .indexAddr X x y, T, pos, af, none⟩ :: r) f w :=
 V6 rfl rfl hn (by simp [execOp, hx, hy, Instr.indexAt, asIntOf, t.under, t.sizeOf, h0, hm, R7]) K
theorem V5 {X E : TypeId} {x y : Operand} {b o len s : Nat} {i : Int} {k : IntKind} (t : ArI P X E len s) (hx : ev f x = .pointer (some ⟨b, o, none⟩)) (hy : ev f y = .int k i) (h0 : 0 ≤ i) (hm : i < len) (hn : Nat.blt d n = true)
 (K : X6 P n ops J r (upd f d (.pointer (some ⟨b, o + i.toNat * s, none⟩))) w) : X6 P n ops J (⟨some d, .indexAddr X x y, T, pos, af, none⟩ :: r) f w :=
 V6 rfl rfl hn (by simp [execOp, hx, hy, Instr.indexAt, Instr.sureAddr, asIntOf, t.under, t.sizeOf, h0, hm, R7]) K
theorem Yl9 {X E : TypeId} {x y : Operand} {cs : Array Value} {len : Nat} {i : Int} {k : IntKind} (v : Value) (t : ArI P X E len 1) (hx : ev f x = .agg cs) (hy : ev f y = .int k i) (h0 : 0 ≤ i) (hm : i < len) (hv : cs[i.toNat]? = some v) (hn : Nat.blt d n = true)
 (K : X6 P n ops J r (upd f d v) w) : X6 P n ops J (⟨some d, .index X x y, T, pos, af, none⟩ :: r) f w :=
 V6 rfl rfl hn (by simp [execOp, hx, hy, Instr.index, asIntOf, t.under, t.sizeOf, part, t.isAgg, h0, hm, hv]) K
theorem Zo2 {X E : TypeId} {x : Operand} {a : Option Addr} {m c s : Nat} (t : SlI P X E s) (hx : ev f x = .slice a m c) (hn : Nat.blt d n = true)
 (K : X6 P n ops J r (upd f d (.int .i64 m)) w) : X6 P n ops J (⟨some d, .call ⟨.builtin .len, #[x], #[X]⟩, T, pos, af, none⟩ :: r) f w :=
 V6 rfl rfl hn (by simp [execOp, resolve, invoke, builtin, Builtin.len_, hx, t.under, goInt]) K
theorem U9 {fid : FuncId} {xs ats : Array _} {vs : Array Value} (hcall : ∀ args w, (callFunc fid args).run P w = .ok (.enter fid args) w) (hx : xs.map (ev f) = vs) (hn : Nat.blt d n = true) {C : Ending → World → Prop} (hc : Calls P fid vs w C)
 (K : ∀ e w', C e w' → ∃ v, e = .returned v ∧ X6 P n ops J r (upd f d v) w') : X6 P n ops J (⟨some d, .call ⟨.value (.func fid), xs, ats⟩, T, pos, af, none⟩ :: r) f w :=
 Xc6 rfl rfl hn (by simp [execOp, resolve, ev, Deferred.ofValue, invoke, hx, hcall]) hc K
end
structure Ty (α : Type) where
 size : Nat
 rel : FH → List Value → α → Prop
 len : ∀ {H : FH} {cs : List Value} {x : α}, rel H cs x → cs.length = size
 mono : ∀ {H H' : FH} {cs : List Value} {x : α}, Sub H H' → rel H cs x → rel H' cs x
 one : ∀ {H : FH} {cs : List Value} {x : α}, rel H cs x → ∀ u, u ∈ cs → u.oneCell' = true
def Wl6 {α : Type} (enc : α → List Value) (s : Nat) (hl : ∀ x, (enc x).length = s) (h1 : ∀ x u, u ∈ enc x → u.oneCell' = true) : Ty α :=
 ⟨s, fun _ cs x => cs = enc x, fun h => by rw [h]; exact hl _, fun _ h => h, fun h u hu => h1 _ u (h ▸ hu)⟩
def Y5 (k : IntKind) : Ty Int := Wl6 (fun x => [.int k x]) 1 (fun _ => rfl) (fun x u hu => by simp at hu; subst hu; rfl)
abbrev A8 := Fin 8 → Int
def Z6 (k : IntKind) (m : A8) : List Value := [.int k (m 0), .int k (m 1), .int k (m 2), .int k (m 3), .int k (m 4), .int k (m 5), .int k (m 6), .int k (m 7)]
theorem S8 (k : IntKind) (m : A8) : ∀ u, u ∈ Z6 k m → u.oneCell' = true := by
 intro u hu
 simp only [Z6, List.mem_cons, List.not_mem_nil, or_false] at hu
 rcases hu with rfl | rfl | rfl | rfl | rfl | rfl | rfl | rfl <;> rfl
def Q9 (k : IntKind) : Ty A8 := Wl6 (Z6 k) 8 (fun _ => rfl) (S8 k)
abbrev B9 := A8 × Int
def rd {α : Type} [Inhabited α] (xs : List α) (i : Int) : α := xs.getD i.toNat default
instance : Inhabited A8 := ⟨fun _ => 0⟩
def Y3 {α : Type} (τ : Ty α) (H : FH) (v : Value) (xs : List α) : Prop :=
 ∃ a c, (v = .slice a xs.length c ∧ xs.length ≤ 9223372036854775807 ∧ xs.length ≤ c) ∧ (xs = [] ∨ ∃ (b o : Nat) (cs : Array Value) (E : TypeId × Nat × Nat), a = some ⟨b, o, none⟩ ∧ H b = some (.cells cs E.1 E.2) ∧
  ∀ i x, xs[i]? = some x → ∃ ecs, τ.rel H ecs x ∧ ∀ j, j < τ.size → cs[o + i * τ.size + j]? = ecs[j]?)
theorem Y3.bound {α : Type} {τ : Ty α} {H : FH} {v : Value} {xs : List α} (h : Y3 τ H v xs) : xs.length ≤ 9223372036854775807 := by
 obtain ⟨a, c, hv, _⟩ := h; exact hv.2.1
theorem Y3.room {α : Type} {τ : Ty α} {H : FH} {v : Value} {xs : List α} (h : Y3 τ H v xs) : ∃ a c, v = .slice a xs.length c ∧ xs.length ≤ c := by
 obtain ⟨a, c, hv, _⟩ := h; exact ⟨a, c, hv.1, hv.2.2⟩
theorem Y3.mono {α : Type} {τ : Ty α} {H H' : FH} {v : Value} {xs : List α} (hs : Sub H H') (h : Y3 τ H v xs) : Y3 τ H' v xs := by
 obtain ⟨a, c, hv, h⟩ := h
 refine ⟨a, c, hv, ?_⟩
 rcases h with h | ⟨b, o, cs, E, ha, hb, hc⟩
 exact .inl h
 exact .inr ⟨b, o, cs, E, ha, hs.1 _ _ hb, fun i x hx => let ⟨ecs, hr, hj⟩ := hc i x hx; ⟨ecs, τ.mono hs hr, hj⟩⟩
def X2 {α : Type} (τ : Ty α) : Ty (List α) :=
 ⟨1, fun H cs xs => ∃ v, cs = [v] ∧ Y3 τ H v xs, fun ⟨_, h, _⟩ => by rw [h]; rfl, fun hs ⟨v, h, hr⟩ => ⟨v, h, hr.mono hs⟩,
  fun ⟨v, h, a, c, ⟨hv, _⟩, _⟩ u hu => by rw [h] at hu; simp at hu; subst hu; subst hv; rfl⟩
def Yh5 {α β : Type} (τ : Ty α) (σ : Ty β) : Ty (α × β) :=
 ⟨τ.size + σ.size, fun H cs x => ∃ c1 c2, cs = c1 ++ c2 ∧ τ.rel H c1 x.1 ∧ σ.rel H c2 x.2,
  fun ⟨c1, c2, h, h1, h2⟩ => by rw [h, List.length_append, τ.len h1, σ.len h2], fun hs ⟨c1, c2, h, h1, h2⟩ => ⟨c1, c2, h, τ.mono hs h1, σ.mono hs h2⟩,
  fun ⟨c1, c2, h, h1, h2⟩ u hu => by rw [h] at hu; exact (List.mem_append.1 hu).elim (τ.one h1 u) (σ.one h2 u)⟩
abbrev yT : Ty B9 := Yh5 (Q9 .u8) (Y5 .i64)
def Yk9 : Ty B9 := Yh5 (Q9 .u8) (Y5 .i64)
abbrev Zi9 := List B9
abbrev A0 := List Int × List Zi9
def Yb4 : Ty Zi9 := X2 Yk9
section
variable {P : Program} {n : Nat} {ops : Array Oper} {J : Fr → World → Prop} {r : List Oper} {f : Fr} {w : World} {d : Nat} {T : TypeId} {pos : String} {af : Array Edge} {H : FH} {L : OL}
variable {α : Type} {τ : Ty α}
theorem X9 {X E : TypeId} {x : Operand} {v : Value} {s : Nat} {xs : List α} (t : SlI P X E s) (hx : ev f x = v) (h : Y3 τ H v xs) (hn : Nat.blt d n = true)
 (K : X6 P n ops J r (upd f d (.int .i64 xs.length)) w) : X6 P n ops J (⟨some d, .call ⟨.builtin .len, #[x], #[X]⟩, T, pos, af, none⟩ :: r) f w := by
 obtain ⟨a, c, ⟨hv, _⟩, _⟩ := h
 exact Zo2 t (hx.trans hv) hn K
theorem Xl1 {α : Type} [Inhabited α] {xs : List α} {i : Int} (h0 : 0 ≤ i) (hm : i < xs.length) : xs[i.toNat]? = some (rd xs i) := by
 have : i.toNat < xs.length := by omega
 simp [rd, List.getD, this]
end
theorem Zd6 {cs : Array Value} {o s : Nat} (A B C : List Value) (h : ∀ j, j < s → cs[o + j]? = (A ++ (B ++ C))[j]?) (hs : A.length + B.length ≤ s) :
 ∀ j, j < B.length → cs[o + A.length + j]? = B[j]? := by
 intro j hj
 have := h (A.length + j) (by omega)
 rw [← Nat.add_assoc] at this
 rw [this, List.getElem?_append_right (by omega), Nat.add_sub_cancel_left, List.getElem?_append_left hj]
def Y4 (m : A8) (i : Int) : Int := if h : i.toNat < 8 then m ⟨i.toNat, h⟩ else 0
theorem Yk2 {k : IntKind} {m : A8} {i : Int} (h0 : 0 ≤ i) (h8 : i < 8) : (Z6 k m).toArray[i.toNat]? = some (.int k (Y4 m i)) := by
 obtain ⟨j, rfl⟩ := Int.eq_ofNat_of_zero_le h0
 have : j < 8 := by omega
 match j, this with
 | 0, _ | 1, _ | 2, _ | 3, _ | 4, _ | 5, _ | 6, _ | 7, _ => rfl
inductive Ex (ρ σ : Type) where
 | ret (r : ρ)
 | go (s : σ)
def U7 (R : Value → FH → Prop) (H : FH) (L : OL) : Ending → World → Prop := fun e w' => ∃ v H', e = .returned v ∧ Sub H H' ∧ St H' w' L ∧ R v H'
structure MP where
 p : FH → Value → Prop
 mono : ∀ {H H' : FH} {v : Value}, Sub H H' → p H v → p H' v
 res : Value → OL
def MP.eq (v : Value) : MP := ⟨fun _ u => u = v, fun _ h => h, fun _ => []⟩
def MP.any : MP := ⟨fun _ _ => True, fun _ h => h, fun _ => []⟩
def MP.sl {α : Type} (τ : Ty α) (xs : List α) : MP := ⟨fun H v => Y3 τ H v xs, fun hs h => h.mono hs, fun _ => []⟩
def Zo7 (o : Obj) : Value → OL
 | .pointer (some p) => [(p.block, o)]
 | _ => []
def Ww0 (o : Obj) : Value → OL
 | .slice (some p) _ _ => [(p.block, o)]
 | _ => []
structure Co where
 mk_ : Nat
 d : Nat
 k : Nat
 i : Nat
 x : Nat
 r : Value → Value → OL
 q : FH → Value → Prop
 qm : ∀ {H H' : FH} {v : Value}, Sub H H' → q H v → q H' v
def Co.st (mk_ d k i x : Nat) (o : Value → Obj) : Co := ⟨mk_, d, k, i, x, fun vx vd => Zo7 (o vx) vd, fun _ _ => True, fun _ _ => trivial⟩
def Co.fz (mk_ d k : Nat) (p : MP) : Co := ⟨mk_, d, k, mk_, d, fun _ _ => [], p.p, p.mono⟩
def Yh2 (T : TypeId) : Value → Obj
 | .agg cs => .cells cs T
 | v => .cells #[v] T
abbrev Con := List Co
def Con.of (con : Con) (j : Nat) : Option Co := con.find? (fun c => Nat.beq c.mk_ j)
def Con.by_ (con : Con) (k : Nat) : Option Co := con.find? (fun c => Nat.beq c.k k)
def Xi4 : Value → OL
 | .map (some b) => [(b, .map #[] 0)]
 | _ => []
def MP.mk0 : MP := ⟨fun _ v => ∃ b, v = .map (some b), fun _ h => h, Xi4⟩
def MP.box (o : Obj) : MP := ⟨fun _ v => ∃ b, v = .pointer (some ⟨b, 0, none⟩), fun _ h => h, Zo7 o⟩
def Yn4 (acc : List Nat) (o : Oper) : Nat :=
 o.after.toList.foldl (fun s e => if Region.binds .any e then s ||| (2 ^ e.on ||| acc.getD e.on 0) else s) 0
def Q5 : List Oper → List Nat → List Nat
 | [], acc => acc
 | o :: r, acc => Q5 r (acc ++ [Yn4 acc o])
theorem Xo9 (acc : List Nat) (i : Nat) : ∀ (es : List Edge) (s : Nat),
 (es.foldl (fun s e => if Region.binds .any e then s ||| (2 ^ e.on ||| acc.getD e.on 0) else s) s).testBit i = true →
 s.testBit i = true ∨ ∃ e, e ∈ es ∧ Region.binds .any e = true ∧ (i = e.on ∨ (acc.getD e.on 0).testBit i = true)
 | [], s, h => .inl h
 | e :: es, s, h => by
  simp only [List.foldl_cons] at h
  rcases Xo9 acc i es _ h with h | ⟨e', he, hb, hi⟩
  split at h
  rename_i hbd
  rw [Nat.testBit_or, Bool.or_eq_true, Nat.testBit_or, Bool.or_eq_true] at h
  rcases h with h | h | h
  exact .inl h
  refine .inr ⟨e, List.mem_cons_self .., hbd, .inl ?_⟩
  rw [Nat.testBit_two_pow] at h
  exact (of_decide_eq_true h).symm
  exact .inr ⟨e, List.mem_cons_self .., hbd, .inr h⟩
  exact .inl h
  exact .inr ⟨e', List.mem_cons_of_mem _ he, hb, hi⟩
theorem Xi2 {acc : List Nat} {o : Oper} {i : Nat} (h : (Yn4 acc o).testBit i = true) :
 ∃ e, e ∈ o.after.toList ∧ Region.binds .any e = true ∧ (i = e.on ∨ (acc.getD e.on 0).testBit i = true) := by
 rcases Xo9 acc i _ _ h with h | h
 simp at h
 exact h
theorem Xm4 : ∀ (l : List Oper) (acc : List Nat), (Q5 l acc).length = acc.length + l.length
 | [], acc => by simp [Q5]
 | o :: r, acc => by rw [Q5, Xm4 r]; simp; omega
theorem Yu1 : ∀ (l : List Oper) (acc : List Nat) (i : Nat), i < acc.length → (Q5 l acc)[i]? = acc[i]?
 | [], acc, i, _ => rfl
 | o :: r, acc, i, h => by rw [Q5, Yu1 r _ i (by simp; omega), List.getElem?_append_left h]
theorem Yq1 : ∀ (l : List Oper) (acc : List Nat) (j : Nat) (o : Oper), l[j]? = some o →
 (Q5 l acc)[acc.length + j]? = some (Yn4 ((Q5 l acc).take (acc.length + j)) o)
 | [], acc, j, o, h => by simp at h
 | x :: r, acc, 0, o, h => by
  simp at h; subst h
  rw [Q5]
  have h1 : (Q5 r (acc ++ [Yn4 acc x]))[acc.length + 0]? = some (Yn4 acc x) := by
   rw [Yu1 _ _ _ (by simp)]; simp
  rw [h1]
  congr 2
  apply List.ext_getElem?
  intro i
  rw [List.getElem?_take]
  split
  rw [Yu1 _ _ _ (by simp; omega), List.getElem?_append_left (by omega)]
  rw [List.getElem?_eq_none (by omega)]
 | x :: r, acc, j + 1, o, h => by
  simp at h
  have := Yq1 r (acc ++ [Yn4 acc x]) j o h
  rw [Q5]
  simp only [List.length_append, List.length_singleton] at this
  rw [show acc.length + (j + 1) = acc.length + 1 + j by omega]
  exact this
def Yu0 : List Oper → Bool
 | [] => true
 | o :: r => (r.all fun p => match o.dst, p.dst with | some a, some b => !Nat.beq a b | _, _ => true) && Yu0 r
def Zg8 (l : List Oper) (m : Nat) : Bool :=
 (l.zipIdx.all fun (o, j) => o.after.toList.all fun e => !Region.binds .any e || Nat.blt e.on j) &&
 (((Q5 l []).zipIdx.all fun (k, j) => Nat.blt j m || Nat.beq ((k + 1) % 2 ^ j) 0) && Yu0 (l.take m))
def inD (l : List Oper) (t : Nat) : Bool := l.any fun o => match o.dst with | some d => Nat.beq d t | none => false
def J0 (step : Nat → Oper → Prop) : List Oper → Nat → Prop
 | [], _ => True
 | o :: r, j => step j o ∧ J0 step r (j + 1)
theorem V1 {step : Nat → Oper → Prop} {j : Nat} : J0 step [] j := trivial
theorem J0.at {step : Nat → Oper → Prop} : ∀ {l : List Oper} {k : Nat}, J0 step l k → ∀ {j : Nat} {o : Oper}, l[j]? = some o → step (k + j) o
 | [], _, _, j, o, h => by simp at h
 | x :: r, k, hh, 0, o, h => by simp at h; subst h; exact hh.1
 | x :: r, k, hh, j + 1, o, h => by
  simp at h
  have := J0.at hh.2 h
  rwa [show k + 1 + j = k + (j + 1) by omega] at this
section
variable {P : Program} {n : Nat} {l : List Oper} {m : Nat} {tab : Nat → MP} {con : Con} {H : FH} {L : OL} {f0 : Fr} {J : Fr → World → Prop}
def Zc8 (P : Program) (n : Nat) (l : List Oper) (m : Nat) (tab : Nat → MP) (con : Con) (H : FH) (L : OL) (f0 : Fr) (j : Nat) (o : Oper) : Prop :=
 ∀ (f : Fr) (w : World) (H' : FH) (X : OL), Sub H H' → St H' w (X ++ L) → (∀ t, inD (l.take m) t = false → f t = f0 t) →
  (∀ i d, ((Q5 l []).getD j 0).testBit i = true → (l[i]?).bind (·.dst) = some d → (tab d).p H' (f d)) →
  (∀ k c, con.by_ k = some c → ((Q5 l []).getD j 0).testBit k = true → c.q H' (f c.d)) →
  X6 P n l.toArray (fun f' w' => ∃ d v H'', o.dst = some d ∧ f' = upd f d v ∧ Sub H' H'' ∧ St H'' w' ((tab d).res v ++ (X ++ L)) ∧ (tab d).p H'' v) [o] f w
theorem evT {f f0 : Fr} {t : Nat} {v : Value} (h : f t = f0 t) (h' : ev f0 (.tmp t) = v) : ev f (.tmp t) = v := (show ev f (.tmp t) = ev f0 (.tmp t) from h).trans h'
theorem qn {P : Program} {n : Nat} {ops : Array Oper} {tab : Nat → MP} {H' H'' : FH} {X L : OL} {f : Fr} {w : World} {o : Oper} {d : Nat} {v : Value} (hs : Sub H' H'') (ho : o.dst = some d) (hS : St H'' w ((tab d).res v ++ (X ++ L))) (hp : (tab d).p H'' v) :
 X6 P n ops (fun f' w' => ∃ d v H'', o.dst = some d ∧ f' = upd f d v ∧ Sub H' H'' ∧ St H'' w' ((tab d).res v ++ (X ++ L)) ∧ (tab d).p H'' v) [] (upd f d v) w := Z2 ⟨d, v, _, ho, rfl, hs, hS, hp⟩
def Wv1 (P : Program) (n : Nat) (l : List Oper) (m : Nat) (tab : Nat → MP) (con : Con) (H : FH) (L : OL) (f0 : Fr) (d x : Nat) (r2 : Value → Value → OL) (q2 : FH → Value → Prop) (j : Nat) (o : Oper) : Prop :=
 ∀ (f : Fr) (w : World) (H' : FH) (X : OL), Sub H H' → St H' w ((tab d).res (f d) ++ (X ++ L)) → (∀ t, inD (l.take m) t = false → f t = f0 t) →
  (∀ i d, ((Q5 l []).getD j 0).testBit i = true → (l[i]?).bind (·.dst) = some d → (tab d).p H' (f d)) →
  (∀ k c, con.by_ k = some c → ((Q5 l []).getD j 0).testBit k = true → c.q H' (f c.d)) →
  X6 P n l.toArray (fun f' w' => ∃ H'', o.dst = none ∧ f' = f ∧ Sub H' H'' ∧ St H'' w' (r2 (f x) (f d) ++ (X ++ L)) ∧ q2 H'' (f d)) [o] f w
def Zc9 (P : Program) (n : Nat) (l : List Oper) (m : Nat) (tab : Nat → MP) (con : Con) (H : FH) (L : OL) (f0 : Fr) (j : Nat) (o : Oper) : Prop :=
 match con.by_ j with
 | none => Zc8 P n l m tab con H L f0 j o
 | some c => Wv1 P n l m tab con H L f0 c.d c.x c.r c.q j o
theorem U1 {P : Program} {n : Nat} {l : List Oper} {m : Nat} {tab : Nat → MP} {con : Con} {H : FH} {L : OL} {f0 : Fr} {j : Nat} {o : Oper} {r : List Oper} (hc : con.by_ j = none)
 (h : Zc8 P n l m tab con H L f0 j o) (h' : J0 (Zc9 P n l m tab con H L f0) r (j + 1)) : J0 (Zc9 P n l m tab con H L f0) (o :: r) j := by
 refine ⟨?_, h'⟩
 unfold Zc9; rw [hc]; exact h
theorem Yp0 {P : Program} {n : Nat} {l : List Oper} {m : Nat} {tab : Nat → MP} {con : Con} {H : FH} {L : OL} {f0 : Fr} {j : Nat} {c : Co} {o : Oper} {r : List Oper} (hc : con.by_ j = some c)
 (h : Wv1 P n l m tab con H L f0 c.d c.x c.r c.q j o) (h' : J0 (Zc9 P n l m tab con H L f0) r (j + 1)) : J0 (Zc9 P n l m tab con H L f0) (o :: r) j := by
 refine ⟨?_, h'⟩
 unfold Zc9; rw [hc]; exact h
def U6 (tab : Nat → MP) (con : Con) (l : List Oper) (f : Fr) (on : Nat → Bool) (j : Nat) : OL :=
 if on j then (match (l[j]?).bind (·.dst) with
  | some d => match con.of j with
   | some c => if on c.k then c.r (f c.x) (f d) else (tab d).res (f d)
   | none => (tab d).res (f d)
  | none => []) else []
def Zz9 (con : Con) (l : List Oper) (m : Nat) : Bool :=
 con.all fun c => Nat.blt c.k m && (Nat.blt c.mk_ m && (((Q5 l []).getD c.k 0).testBit c.mk_ &&
  ((match (l[c.mk_]?).bind (·.dst) with | some d => Nat.beq d c.d | none => false) && ((Nat.blt c.i m && (((Q5 l []).getD c.k 0).testBit c.i &&
   (match (l[c.i]?).bind (·.dst) with | some d => Nat.beq d c.x | none => false))) && con.all fun e => (Nat.beq e.mk_ c.mk_ == Nat.beq e.k c.k)))))
theorem Yr6 {α : Type} {p q : α → Bool} : ∀ {xs : List α}, (∀ x, x ∈ xs → p x = q x) → xs.find? p = xs.find? q
 | [], _ => rfl
 | x :: xs, h => by
  rw [List.find?_cons, List.find?_cons, h x (List.mem_cons_self ..), Yr6 (fun y hy => h y (List.mem_cons_of_mem _ hy))]
theorem Wk8 {con : Con} {l : List Oper} {m : Nat} (h : Zz9 con l m = true) {c : Co} (hm : c ∈ con) :
 c.k < m ∧ c.mk_ < m ∧ ((Q5 l []).getD c.k 0).testBit c.mk_ = true ∧ (l[c.mk_]?).bind (·.dst) = some c.d ∧
 (c.i < m ∧ ((Q5 l []).getD c.k 0).testBit c.i = true ∧ (l[c.i]?).bind (·.dst) = some c.x) ∧ ∀ e, e ∈ con → Nat.beq e.mk_ c.mk_ = Nat.beq e.k c.k := by
 have h0 := List.all_eq_true.1 h c hm
 simp only [Bool.and_eq_true] at h0
 obtain ⟨h1, h2, h3, h4, ⟨h6, h7, h8⟩, h5⟩ := h0
 refine ⟨by simpa [Nat.blt_eq] using h1, by simpa [Nat.blt_eq] using h2, h3, ?_, ⟨by simpa [Nat.blt_eq] using h6, h7, ?_⟩, fun e he => by simpa using List.all_eq_true.1 h5 e he⟩
 cases hd : (l[c.mk_]?).bind (·.dst) with
 | none => rw [hd] at h4; cases h4
 | some d => rw [hd] at h4; exact congrArg some (Nat.eq_of_beq_eq_true h4)
 cases hd : (l[c.i]?).bind (·.dst) with
 | none => rw [hd] at h8; cases h8
 | some d => rw [hd] at h8; exact congrArg some (Nat.eq_of_beq_eq_true h8)
theorem D1 {con : Con} {l : List Oper} {m : Nat} (h : Zz9 con l m = true) {j : Nat} {c : Co} (hc : con.of j = some c) :
 c.mk_ = j ∧ con.by_ c.k = some c ∧ c.k < m ∧ j < m ∧ ((Q5 l []).getD c.k 0).testBit j = true ∧ (l[j]?).bind (·.dst) = some c.d ∧
 (c.i < m ∧ ((Q5 l []).getD c.k 0).testBit c.i = true ∧ (l[c.i]?).bind (·.dst) = some c.x) := by
 have hm := List.mem_of_find?_eq_some hc
 have hj : c.mk_ = j := Nat.eq_of_beq_eq_true (by simpa using List.find?_some hc)
 have hh := Wk8 h hm
 refine ⟨hj, ?_, hh.1, hj ▸ hh.2.1, hj ▸ hh.2.2.1, hj ▸ hh.2.2.2.1, hh.2.2.2.2.1⟩
 have e : con.by_ c.k = con.of c.mk_ := by
  unfold Con.by_ Con.of
  refine Yr6 (fun e he => ?_)
  exact (hh.2.2.2.2.2 e he).symm
 rw [e, hj]; exact hc
theorem Zq2 {con : Con} {l : List Oper} {m : Nat} (h : Zz9 con l m = true) {k : Nat} {c : Co} (hc : con.by_ k = some c) :
 c.k = k ∧ con.of c.mk_ = some c ∧ k < m ∧ c.mk_ < m ∧ ((Q5 l []).getD k 0).testBit c.mk_ = true ∧ (l[c.mk_]?).bind (·.dst) = some c.d := by
 have hm := List.mem_of_find?_eq_some hc
 have hj : c.k = k := Nat.eq_of_beq_eq_true (by simpa using List.find?_some hc)
 have hh := Wk8 h hm
 refine ⟨hj, ?_, hj ▸ hh.1, hh.2.1, hj ▸ hh.2.2.1, hh.2.2.2.1⟩
 have e : con.by_ c.k = con.of c.mk_ := by
  unfold Con.by_ Con.of
  refine Yr6 (fun e he => ?_)
  exact (hh.2.2.2.2.2 e he).symm
 rw [← e, hj]; exact hc
theorem Zs6 {g : Nat → OL} {j : Nat} : ∀ (is : List Nat), is.Nodup → j ∈ is → (is.flatMap g).Perm (g j ++ is.flatMap fun i => if i = j then [] else g i)
 | [], _, h => by cases h
 | i :: is, hn, h => by
  rw [List.flatMap_cons, List.flatMap_cons]
  obtain ⟨hni, hn'⟩ := List.nodup_cons.1 hn
  by_cases e : i = j
  subst e
  have : is.flatMap (fun k => if k = i then [] else g k) = is.flatMap g := by
   have : ∀ (xs : List Nat), i ∉ xs → xs.flatMap (fun k => if k = i then [] else g k) = xs.flatMap g := by
    intro xs
    induction xs with
    | nil => intro _; rfl
    | cons y ys ih =>
     intro hx
     have hyi : ¬ y = i := fun h => hx (by rw [h]; exact List.mem_cons_self ..)
     rw [List.flatMap_cons, List.flatMap_cons, ih (fun h => hx (List.mem_cons_of_mem _ h)), if_neg hyi]
   exact this is hni
  rw [this, if_pos rfl]; simp
  have hj : j ∈ is := (List.mem_cons.1 h).resolve_left (fun h => e h.symm)
  rw [if_neg e]
  refine ((Zs6 is hn' hj).append_left (g i)).trans ?_
  rw [← List.append_assoc, ← List.append_assoc]
  exact List.perm_append_comm.append_right _
theorem Yf6 {g g' : Nat → OL} {j : Nat} : ∀ (is : List Nat), is.Nodup → j ∈ is → g j = [] → (∀ i, i ≠ j → g' i = g i) → (is.flatMap g').Perm (g' j ++ is.flatMap g)
 | [], _, h, _, _ => by cases h
 | i :: is, hn, h, h0, hne => by
  rw [List.flatMap_cons, List.flatMap_cons]
  obtain ⟨hni, hn'⟩ := List.nodup_cons.1 hn
  by_cases e : i = j
  subst e
  have : is.flatMap g' = is.flatMap g := by
   have : ∀ (xs : List Nat), i ∉ xs → xs.flatMap g' = xs.flatMap g := by
    intro xs
    induction xs with
    | nil => intro _; rfl
    | cons y ys ih =>
     intro hx
     rw [List.flatMap_cons, List.flatMap_cons, ih (fun h => hx (List.mem_cons_of_mem _ h)), hne y (fun h => hx (h ▸ List.mem_cons_self ..))]
   exact this is hni
  rw [this, h0]; simp
  have hj : j ∈ is := (List.mem_cons.1 h).resolve_left (fun h => e h.symm)
  rw [hne i e]
  refine ((Yf6 is hn' hj h0 hne).append_left (g i)).trans ?_
  rw [← List.append_assoc, ← List.append_assoc]
  exact List.perm_append_comm.append_right _
def Yc1 (l : List Oper) (listed : Array Bool) : Prop :=
 ∀ j, listed.getD j false = true → ∀ i, ((Q5 l []).getD j 0).testBit i = true → listed.getD i false = true
theorem Zy2 {listed : Array Bool} {j : Nat} {o : Oper} (ho : l[j]? = some o) (hc : Yc1 l listed) (hj : j < listed.size)
 (hr : ∀ e, e ∈ o.after.toList → Region.binds .any e = true → listed.getD e.on false = true) : 
 (∀ i, ((Q5 l []).getD j 0).testBit i = true → listed.getD i false = true) ∧ Yc1 l (listed.setIfInBounds j true) := by
 have hm : ∀ i, ((Q5 l []).getD j 0).testBit i = true → listed.getD i false = true := by
  intro i hi
  have h1 := Yq1 l [] j o ho
  simp only [List.length_nil, Nat.zero_add] at h1
  rw [List.getD_eq_getElem?_getD, h1, Option.getD_some] at hi
  obtain ⟨e, he, hb, h⟩ := Xi2 hi
  have hl := hr e he hb
  rcases h with rfl | h
  exact hl
  refine hc e.on hl i ?_
  rw [List.getD_eq_getElem?_getD, List.getElem?_take] at h
  split at h
  rw [List.getD_eq_getElem?_getD]; exact h
  simp at h
 refine ⟨hm, fun k hk i hi => ?_⟩
 have hmono : ∀ i, listed.getD i false = true → (listed.setIfInBounds j true).getD i false = true := by
  intro i h
  rw [Array.getD_eq_getD_getElem?, Array.getElem?_setIfInBounds]
  split
  rename_i e; subst e; simp [hj]
  rwa [Array.getD_eq_getD_getElem?] at h
 by_cases e : k = j
 subst e; exact hmono i (hm i hi)
 refine hmono i (hc k ?_ i hi)
 rw [Array.getD_eq_getD_getElem?, Array.getElem?_setIfInBounds, if_neg (fun h => e h.symm)] at hk
 rwa [Array.getD_eq_getD_getElem?]
theorem Zb6 {listed : Array Bool} {j i : Nat} (h : (listed.setIfInBounds j true).getD i false = true) : i = j ∨ listed.getD i false = true := by
 rw [Array.getD_eq_getD_getElem?, Array.getElem?_setIfInBounds] at h
 split at h
 rename_i e; exact .inl e.symm
 rw [Array.getD_eq_getD_getElem?]; exact .inr h
def Yc2 (n : Nat) (J : Fr → World → Prop) : Exit → Act → World → Prop := fun e a' w' => e = .normal ∧ ∃ f', Zg5 n a' f' ∧ J f' w'
theorem Zg1 {listed : Array Bool} {j : Nat} (hs : listed.size = l.length) (h : j ∈ Region.ready .any l.toArray listed) :
 ∃ o, l[j]? = some o ∧ j < listed.size ∧ listed.getD j false = false ∧ ∀ e, e ∈ o.after.toList → Region.binds .any e = true → listed.getD e.on false = true := by
 unfold Region.ready at h
 obtain ⟨h1, h2⟩ := List.mem_filter.1 h
 have hj : j < l.length := by simpa using h1
 simp only [Bool.and_eq_true, Bool.not_eq_true'] at h2
 obtain ⟨h3, h4⟩ := h2
 have ho : l[j]? = some l[j] := by simp [hj]
 refine ⟨l[j], ho, by omega, ?_, ?_⟩
 rw [Array.getD_eq_getD_getElem?] at h3 ⊢
 have : j < listed.size := by omega
 simpa [this] using h3
 intro e he hb
 simp only [List.getElem?_toArray, ho, Option.map_some, Option.getD_some] at h4
 have := (Array.all_eq_true_iff_forall_mem.1 h4) e (by simpa using he)
 simpa [hb] using this
theorem Yb0 {listed : Array Bool} (hs : listed.size = l.length) (hback : ∀ j o, l[j]? = some o → ∀ e, e ∈ o.after.toList → Region.binds .any e = true → e.on < j)
 (h : Region.ready .any l.toArray listed = []) : ∀ j, j < l.length → listed.getD j false = true := by
 intro j
 induction j using Nat.strongRecOn with
 | _ j ih =>
  intro hj
  cases hl : listed.getD j false with
  | true => rfl
  | false =>
   exfalso
   have : j ∈ Region.ready .any l.toArray listed := by
    unfold Region.ready
    refine List.mem_filter.2 ⟨by simpa using hj, ?_⟩
    have ho : l[j]? = some l[j] := by simp [hj]
    simp only [Bool.and_eq_true, Bool.not_eq_true']
    refine ⟨?_, ?_⟩
    rw [Array.getD_eq_getD_getElem?] at hl ⊢
    have : j < listed.size := by omega
    simpa [this] using hl
    simp only [List.getElem?_toArray, ho, Option.map_some, Option.getD_some]
    refine Array.all_eq_true_iff_forall_mem.2 fun e he => ?_
    cases hb : Region.binds .any e with
    | false => simp
    | true =>
     have hlt := hback j _ ho e (by simpa using he) hb
     simpa using ih e.on hlt (by omega)
   rw [h] at this
   cases this
theorem J7 {o : Oper} {j : Nat} {a : Act} {w : World} {f : Fr} {K : Act → World → Prop} {J1 : Fr → World → Prop} {Q : Exit → Act → World → Prop}
 (ho : l[j]? = some o) (ha : Zg5 n a f) (h : X6 P n l.toArray J1 [o] f w) (hK : ∀ f' a' w', Zg5 n a' f' → J1 f' w' → K a' w') : wpOp P l.toArray Q j K a w := by
 have h1 := h a ha
 unfold wpOp
 simp only [List.getElem?_toArray, ho]
 unfold wpList at h1
 split
 rename_i hw
 rw [if_pos hw] at h1
 rcases h1 with h1 | ⟨_, a0, w0, h0, _⟩
 left
 unfold Oper.wp at h1 ⊢
 revert h1
 generalize (execOp a.eval o).run P w = rr
 intro h1
 cases rr with
 | ok x w' =>
  cases x <;> simp only [Oper.upon] at h1 ⊢
  case value v => obtain ⟨_, f', ha', hJ⟩ := h1; exact hK _ _ _ ha' hJ
  case skip => obtain ⟨_, f', ha', hJ⟩ := h1; exact hK _ _ _ ha' hJ
  case defer dd => obtain ⟨_, f', ha', hJ⟩ := h1; exact hK _ _ _ ha' hJ
  case enter g args =>
   refine h1.mono fun e w'' he => ?_
   cases e with
   | returned v => obtain ⟨_, f', ha', hJ⟩ := he; exact hK _ _ _ ha' hJ
   | panicked ch => exact absurd he.1 (by simp)
   | outgrown => obtain ⟨a0, w0, h0, _⟩ := he; exact absurd h0 (by simp)
  case row row args =>
   refine h1.mono fun v w'' he => ?_
   obtain ⟨_, f', ha', hJ⟩ := he; exact hK _ _ _ ha' hJ
 | halt x w' =>
  cases x <;> simp only [Oper.upon] at h1 ⊢
  exact absurd h1.1 (by simp)
 exact absurd h0 (by simp)
 rename_i hw
 rw [if_neg hw] at h1
 obtain ⟨_, f', ha', hJ⟩ := h1
 exact hK _ _ _ ha' hJ
theorem Zx4 : ∀ (xs : List Bool) (j : Nat), xs[j]? = some false → (xs.set j true).countP id = xs.countP id + 1
 | [], j, h => by simp at h
 | x :: xs, 0, h => by simp at h; subst h; simp [List.countP_cons]
 | x :: xs, j + 1, h => by
  simp at h
  have := Zx4 xs j h
  simp only [List.set_cons_succ, List.countP_cons, this]
  omega
theorem Zw2 {xs : List Bool} (h : xs.countP id = xs.length) : ∀ j, j < xs.length → xs.getD j false = true := by
 intro j hj
 have := List.countP_eq_length.1 h xs[j] (List.getElem_mem hj)
 simpa [List.getD, hj] using this
theorem Zp7 (h : Zg8 l m = true) : ∀ j o, l[j]? = some o → ∀ e, e ∈ o.after.toList → Region.binds .any e = true → e.on < j := by
 intro j o ho e he hb
 unfold Zg8 at h
 rw [Bool.and_eq_true] at h
 have h1 := List.all_eq_true.1 h.1 (o, j) (by rw [List.mem_zipIdx_iff_getElem?]; exact ho)
 have h2 := List.all_eq_true.1 h1 e he
 simpa [hb, Nat.blt_eq] using h2
theorem Za5 : ∀ {l : List Oper}, Yu0 l = true → ∀ {i j : Nat} {a b : Nat}, i ≠ j → (l[i]?).bind (·.dst) = some a → (l[j]?).bind (·.dst) = some b → a ≠ b
 | [], _, i, j, a, b, _, hi, _ => by simp at hi
 | o :: r, h, i, j, a, b, hij, hi, hj => by
  unfold Yu0 at h
  rw [Bool.and_eq_true] at h
  have hd : ∀ (k : Nat) (c e : Nat), (r[k]?).bind (·.dst) = some e → o.dst = some c → c ≠ e := by
   intro k c e hk hc
   cases hr : r[k]? with
   | none => rw [hr] at hk; cases hk
   | some q =>
    rw [hr] at hk
    have h1 := List.all_eq_true.1 h.1 q (List.mem_of_getElem? hr)
    simp only [Option.bind_some] at hk
    rw [hc, hk] at h1
    intro e'
    subst e'
    simp at h1
  match i, j, hij, hi, hj with
  | 0, 0, hij, _, _ => exact absurd rfl hij
  | 0, j + 1, _, hi, hj => exact hd j a b (by simpa using hj) (by simpa using hi)
  | i + 1, 0, _, hi, hj => exact (hd i b a (by simpa using hi) (by simpa using hj)).symm
  | i + 1, j + 1, hij, hi, hj => exact Za5 h.2 (i := i) (j := j) (by omega) (by simpa using hi) (by simpa using hj)
theorem E1 (h : Zg8 l m = true) : Yu0 (l.take m) = true := by
 unfold Zg8 at h
 rw [Bool.and_eq_true, Bool.and_eq_true] at h
 exact h.2.2
theorem Xx8 : ∀ (j k : Nat), (k + 1) % 2 ^ j = 0 → ∀ i, i < j → k.testBit i = true
 | 0, k, _, i, hi => by omega
 | j + 1, k, h, i, hi => by
  have hd : 2 ^ (j + 1) ∣ k + 1 := Nat.dvd_of_mod_eq_zero h
  have h2 : 2 ∣ k + 1 := Nat.dvd_trans ⟨2 ^ j, by rw [Nat.pow_succ, Nat.mul_comm]⟩ hd
  cases i with
  | zero => rw [Nat.testBit_zero]; simp; omega
  | succ i =>
   rw [Nat.testBit_succ]
   refine Xx8 j (k / 2) ?_ i (by omega)
   obtain ⟨c, hc⟩ := hd
   have : k / 2 + 1 = 2 ^ j * c := by
    have e : k + 1 = 2 * (2 ^ j * c) := by rw [hc, Nat.pow_succ, Nat.mul_comm (2 ^ j) 2, Nat.mul_assoc]
    omega
   rw [this]; exact Nat.mul_mod_right _ _
theorem Zu3 (h : Zg8 l m = true) : ∀ j, m ≤ j → j < l.length → ∀ i, i < j → ((Q5 l []).getD j 0).testBit i = true := by
 intro j hm hj i hi
 unfold Zg8 at h
 rw [Bool.and_eq_true] at h
 have hl : j < (Q5 l []).length := by rw [Xm4]; simpa using hj
 rw [Bool.and_eq_true] at h
 have h1 := List.all_eq_true.1 h.2.1 ((Q5 l [])[j], j) (by rw [List.mem_zipIdx_iff_getElem?]; simp [hl])
 rw [List.getD_eq_getElem?_getD, List.getElem?_eq_getElem hl, Option.getD_some]
 simp only [Bool.or_eq_true, Nat.blt_eq, Nat.beq_eq] at h1
 rcases h1 with h1 | h1
 omega
 exact Xx8 j _ h1 i hi
theorem We9 {listed : Array Bool} {k : Nat} (hk : ∀ i, listed.getD i false = decide (i < k)) (j : Nat) (hj : j < listed.size) (e : j = k) :
 ∀ i, (listed.setIfInBounds j true).getD i false = decide (i < k + 1) := by
 intro i
 rw [Array.getD_eq_getD_getElem?, Array.getElem?_setIfInBounds]
 by_cases h : j = i
 subst h; subst e; simp [hj]
 rw [if_neg h]
 have := hk i
 rw [Array.getD_eq_getD_getElem?] at this
 rw [this]
 rw [decide_eq_decide]; omega
theorem Ye7 (hok : Zg8 l m = true) : ∀ (fuel k : Nat) (listed : Array Bool) (a : Act) (w : World), listed.size = l.length → k + fuel = l.length → m ≤ k →
 (∀ i, listed.getD i false = decide (i < k)) → wpList P l.toArray (Yc2 n J) (l.drop k) a w → wpAny P .any l.toArray (Yc2 n J) fuel listed a w
 | 0, k, listed, a, w, hs, hk, hm, hl, h => by
  have e : l.drop k = [] := by rw [List.drop_eq_nil_iff]; omega
  rw [e] at h
  refine ⟨?_, h⟩
  cases hr : Region.ready .any l.toArray listed with
  | nil => rfl
  | cons j r =>
   obtain ⟨o, ho, hj, hf, _⟩ := Zg1 hs (by rw [hr]; exact List.mem_cons_self ..)
   rw [hl j] at hf
   have := of_decide_eq_false hf
   omega
 | fuel + 1, k, listed, a, w, hs, hk, hm, hl, h => by
  have hkl : k < l.length := by omega
  refine ⟨fun hr => ?_, fun j hj => ?_⟩
  have := Yb0 hs (Zp7 hok) hr k hkl
  rw [hl k] at this; simp at this
  obtain ⟨o, ho, hjs, hf, he⟩ := Zg1 hs hj
  rw [hl j] at hf
  have hjk : k ≤ j := Nat.le_of_not_lt (of_decide_eq_false hf)
  have hc : Yc1 l listed := by
   intro a1 h1 i hi
   rw [hl a1] at h1
   have h1 := of_decide_eq_true h1
   rw [hl i]
   apply decide_eq_true
   have hal : a1 < l.length := by omega
   have hm := Yq1 l [] a1 l[a1] (by simp [hal])
   simp only [List.length_nil, Nat.zero_add] at hm
   rw [List.getD_eq_getElem?_getD, hm, Option.getD_some] at hi
   have key : ∀ (b : Nat), b ≤ a1 → ∀ i, ((Q5 l []).getD b 0).testBit i = true → i < b := by
    intro b
    induction b using Nat.strongRecOn with
    | _ b ih =>
     intro hb i hi
     have hbl : b < l.length := by omega
     have hmb := Yq1 l [] b l[b] (by simp [hbl])
     simp only [List.length_nil, Nat.zero_add] at hmb
     rw [List.getD_eq_getElem?_getD, hmb, Option.getD_some] at hi
     obtain ⟨e, he, hbd, hx⟩ := Xi2 hi
     have hlt := Zp7 hok b _ (by simp [hbl]) e he hbd
     rcases hx with rfl | hx
     exact hlt
     rw [List.getD_eq_getElem?_getD, List.getElem?_take] at hx
     split at hx
     have := ih e.on hlt (by omega) i (by rw [List.getD_eq_getElem?_getD]; exact hx)
     omega
     rename_i hnot; exact absurd hlt hnot
   have := key a1 (Nat.le_refl _) i (by rw [List.getD_eq_getElem?_getD, hm, Option.getD_some]; exact hi)
   omega
  obtain ⟨hmk, _⟩ := Zy2 ho hc hjs he
  have hjl : j < l.length := by omega
  have hjk' : j = k := by
   rcases Nat.lt_or_ge k j with hlt | hge
   have := hmk k (Zu3 hok j (by omega) hjl k hlt)
   rw [hl k] at this; simp at this
   omega
  have hdrop : l.drop k = o :: l.drop (k + 1) := by
   rw [List.drop_eq_getElem_cons hkl]
   congr 1
   subst hjk'
   rw [List.getElem?_eq_getElem hkl] at ho
   exact Option.some.inj ho
  rw [hdrop] at h
  unfold wpList at h
  unfold wpOp
  simp only [List.getElem?_toArray, ho]
  have ih : ∀ a' w', wpList P l.toArray (Yc2 n J) (l.drop (k + 1)) a' w' → wpAny P .any l.toArray (Yc2 n J) fuel (listed.setIfInBounds j true) a' w' := fun a' w' h' =>
   Ye7 hok fuel (k + 1) _ a' w' (by simpa using hs) (by omega) (by omega) (We9 hl j hjs hjk') h'
  split
  rename_i hw
  rw [if_pos hw] at h
  exact h.imp (Oper.wp_mono ih) id
  rename_i hw
  rw [if_neg hw] at h
  exact ih _ _ h
theorem Zp4 {g g' : Nat → OL} : ∀ (is : List Nat), (∀ i, i ∈ is → g i = g' i) → is.flatMap g = is.flatMap g'
 | [], _ => rfl
 | i :: is, h => by rw [List.flatMap_cons, List.flatMap_cons, h i (List.mem_cons_self ..), Zp4 is (fun k hk => h k (List.mem_cons_of_mem _ hk))]
theorem Wn2 (hok : Zg8 l m = true) (hco : Zz9 con l m = true) (hml : m ≤ l.length) (hq : J0 (Zc9 P n l m tab con H L f0) (l.take m) 0)
 (ht : ∀ (f : Fr) (w : World) (H' : FH), Sub H H' → St H' w ((List.range m).flatMap (U6 tab con l f fun _ => true) ++ L) → (∀ t, inD (l.take m) t = false → f t = f0 t) →
  (∀ i d, i < m → (l[i]?).bind (·.dst) = some d → (tab d).p H' (f d)) → (∀ k c, con.by_ k = some c → c.q H' (f c.d)) → X6 P n l.toArray J (l.drop m) f w) :
 ∀ (fuel : Nat) (listed : Array Bool) (a : Act) (w : World) (f : Fr) (H' : FH), listed.size = l.length → listed.toList.countP id + fuel = l.length →
  (∀ i, listed.getD i false = true → i < m) → Yc1 l listed → Zg5 n a f → Sub H H' → St H' w ((List.range m).flatMap (U6 tab con l f fun i => listed.getD i false) ++ L) → (∀ t, inD (l.take m) t = false → f t = f0 t) →
  (∀ i d, listed.getD i false = true → (l[i]?).bind (·.dst) = some d → (tab d).p H' (f d)) → (∀ k c, con.by_ k = some c → listed.getD k false = true → c.q H' (f c.d)) → wpAny P .any l.toArray (Yc2 n J) fuel listed a w := by
 intro fuel
 induction fuel with
 | zero =>
  intro listed a w f H' hs hcnt hlt hc ha Z4 hS hb hv hqs
  have hall := Zw2 (xs := listed.toList) (by have := Array.length_toList (xs := listed); omega)
  have hget : ∀ i, i < l.length → listed.getD i false = true := fun i hi => by
   have := hall i (by simp; omega)
   rw [List.getD_eq_getElem?_getD] at this
   rw [Array.getD_eq_getD_getElem?]
   simpa using this
  have hme : m = l.length := by
   rcases Nat.lt_or_ge m l.length with h | h
   have := hlt m (hget m h); omega
   omega
  refine ⟨?_, ?_⟩
  cases hr : Region.ready .any l.toArray listed with
  | nil => rfl
  | cons j r =>
   obtain ⟨o, ho, hj, hf, _⟩ := Zg1 hs (by rw [hr]; exact List.mem_cons_self ..)
   rw [hget j (by omega)] at hf; cases hf
  have hS' : St H' w ((List.range m).flatMap (U6 tab con l f fun _ => true) ++ L) := by
   have : (List.range m).flatMap (U6 tab con l f fun i => listed.getD i false) = (List.range m).flatMap (U6 tab con l f fun _ => true) := by
    refine Zp4 _ (fun i hi => ?_)
    have e := hget i (by have := List.mem_range.1 hi; omega)
    have e2 : ∀ c, con.of i = some c → listed.getD c.k false = true := fun c hc => hget _ (by have := (D1 hco hc).2.2.1; omega)
    simp only [U6, e]
    cases hdi : (l[i]?).bind (·.dst) with
    | none => rfl
    | some d =>
     cases hof : con.of i with
     | none => rfl
     | some c => simp only [e2 c hof]
   rw [← this]; exact hS
  have := ht f w H' Z4 hS' hb (fun i d hi hd => hv i d (hget i (by omega)) hd) (fun k c hk => hqs k c hk (hget k (by have := (Zq2 hco hk).2.2.1; omega))) a ha
  rw [hme, List.drop_length] at this
  exact this
 | succ fuel ih =>
  intro listed a w f H' hs hcnt hlt hc ha Z4 hS hb hv hqs
  by_cases hall : ∀ i, i < m → listed.getD i false = true
  have hk : ∀ i, listed.getD i false = decide (i < m) := by
   intro i
   by_cases h : i < m
   rw [hall i h]; exact (decide_eq_true h).symm
   cases hg : listed.getD i false with
   | false => exact (decide_eq_false h).symm
   | true => exact absurd (hlt i hg) h
  have hcm : listed.toList.countP id = m := by
   have : ∀ (xs : List Bool) (k : Nat), k ≤ xs.length → (∀ i, xs.getD i false = decide (i < k)) → xs.countP id = k := by
    intro xs
    induction xs with
    | nil => intro k hk _; simp at hk; subst hk; rfl
    | cons x xs ihx =>
     intro k hk h
     have h0 := h 0
     simp at h0
     cases k with
     | zero =>
      have := ihx 0 (by omega) (fun i => by have := h (i + 1); simpa using this)
      have h0 : x = false := by simpa using h0
      subst h0
      simp [List.countP_cons, this]
     | succ k =>
      have := ihx k (by simpa using hk) (fun i => by have := h (i + 1); simpa using this)
      have h0 : x = true := by simpa using h0
      subst h0
      simp [List.countP_cons, this]
   refine this _ m (by simp; omega) (fun i => ?_)
   rw [← hk i, List.getD_eq_getElem?_getD, Array.getD_eq_getD_getElem?]
   simp
  have hS' : St H' w ((List.range m).flatMap (U6 tab con l f fun _ => true) ++ L) := by
   have : (List.range m).flatMap (U6 tab con l f fun i => listed.getD i false) = (List.range m).flatMap (U6 tab con l f fun _ => true) := by
    refine Zp4 _ (fun i hi => ?_)
    have e := hall i (List.mem_range.1 hi)
    have e2 : ∀ c, con.of i = some c → listed.getD c.k false = true := fun c hc => hall _ (D1 hco hc).2.2.1
    simp only [U6, e]
    cases hdi : (l[i]?).bind (·.dst) with
    | none => rfl
    | some d =>
     cases hof : con.of i with
     | none => rfl
     | some c => simp only [e2 c hof]
   rw [← this]; exact hS
  exact Ye7 hok (fuel + 1) m listed a w hs (by omega) (Nat.le_refl _) hk (ht f w H' Z4 hS' hb (fun i d hi hd => hv i d (hall i hi) hd) (fun k c hk => hqs k c hk (hall k (Zq2 hco hk).2.2.1)) a ha)
  refine ⟨fun hr => ?_, fun j hj => ?_⟩
  exact absurd (fun i hi => Yb0 hs (Zp7 hok) hr i (by omega)) hall
  obtain ⟨o, ho, hjs, hf, he⟩ := Zg1 hs hj
  obtain ⟨hmk, hc'⟩ := Zy2 ho hc hjs he
  have hjl : j < l.length := by omega
  have hjm : j < m := by
   rcases Nat.lt_or_ge j m with h | h
   exact h
   exact absurd (fun i hi => hmk i (Zu3 hok j h hjl i (by omega))) hall
  have hstep := hq.at (j := j) (o := o) (by rw [List.getElem?_take, if_pos hjm]; exact ho)
  rw [Nat.zero_add] at hstep
  have hset : ∀ i, i ≠ j → (listed.setIfInBounds j true).getD i false = listed.getD i false := fun i hij => by
   rw [Array.getD_eq_getD_getElem?, Array.getD_eq_getD_getElem?, Array.getElem?_setIfInBounds, if_neg (fun h => hij h.symm)]
  have hsj : (listed.setIfInBounds j true).getD j false = true := by rw [Array.getD_eq_getD_getElem?, Array.getElem?_setIfInBounds]; simp [hjs]
  have hx : listed.toList[j]? = some false := by
   rw [Array.getD_eq_getD_getElem?] at hf
   simpa [hjs] using hf
  have hcnt' : (listed.setIfInBounds j true).toList.countP id + fuel = l.length := by
   have := Zx4 listed.toList j hx
   rw [Array.toList_setIfInBounds]; rw [this]; omega
  have hlt' : ∀ i, (listed.setIfInBounds j true).getD i false = true → i < m := by
   intro i hi
   rcases Zb6 hi with rfl | h
   exact hjm
   exact hlt i h
  unfold Zc9 at hstep
  cases hby : con.by_ j with
  | none =>
   rw [hby] at hstep
   refine J7 ho ha (hstep f w H' _ Z4 hS hb (fun i d hi hd => hv i d (hmk i hi) hd) (fun k c hk hi => hqs k c hk (hmk k hi))) ?_
   rintro f' a' w' ha' ⟨d, v, H'', hd, rfl, hs2, hS2, hp⟩
   have hupd : ∀ t, upd f d v t = if t = d then v else f t := by
    intro t
    unfold upd
    by_cases e : t = d
    subst e; simp
    rw [if_neg e]
    cases hq : Nat.beq t d with
    | false => rfl
    | true => exact absurd (Nat.eq_of_beq_eq_true hq) e
   refine ih (listed.setIfInBounds j true) a' w' (upd f d v) H'' (by simpa using hs) hcnt' hlt' hc' ha' (Z4.trans hs2) ?_ ?_ ?_ ?_
   rw [← List.append_assoc] at hS2
   refine hS2.perm (List.Perm.append_right L ?_)
   have hdj : (l[j]?).bind (·.dst) = some d := by rw [ho]; exact hd
   have key := Yf6 (g := U6 tab con l f fun i => listed.getD i false) (g' := U6 tab con l (upd f d v) fun i => (listed.setIfInBounds j true).getD i false) (j := j) (List.range m) List.nodup_range (List.mem_range.2 hjm)
    (by simp only [U6, hf]; rfl)
    (by
     intro i hij
     simp only [U6, hset i hij]
     split
     rename_i hli
     cases hdi : (l[i]?).bind (·.dst) with
     | none => rfl
     | some c =>
      have hne : c ≠ d := by
       have hil := hlt i hli
       refine Za5 (E1 hok) (i := i) (j := j) hij ?_ ?_
       rw [List.getElem?_take, if_pos hil]; exact hdi
       rw [List.getElem?_take, if_pos hjm]; exact hdj
      simp only
      rw [hupd, if_neg hne]
      cases hof : con.of i with
      | none => rfl
      | some e =>
       have hne2 : e.k ≠ j := by
        intro he
        have := (D1 hco hof).2.1
        rw [he, hby] at this; cases this
       simp only [hset e.k hne2]
       by_cases hoe : listed.getD e.k false = true
       case neg => rw [if_neg hoe, if_neg hoe]
       case pos =>
        rw [if_pos hoe, if_pos hoe]
        obtain ⟨_, _, _, _, _, _, h1, h2, h3⟩ := D1 hco hof
        have hli2 := hc _ hoe _ h2
        have hxd : e.x ≠ d := by
         refine Za5 (E1 hok) (i := e.i) (j := j) (fun he => by rw [he, hf] at hli2; cases hli2) ?_ ?_
         rw [List.getElem?_take, if_pos h1]; exact h3
         rw [List.getElem?_take, if_pos hjm]; exact hdj
        rw [hupd, if_neg hxd]
     rfl)
   have hj' : U6 tab con l (upd f d v) (fun i => (listed.setIfInBounds j true).getD i false) j = (tab d).res v := by
    simp only [U6, hsj, hdj]
    cases hof : con.of j with
    | none => simp [hupd]
    | some e =>
     obtain ⟨_, hb1, _, _, hb2, _, _⟩ := D1 hco hof
     have hej : e.k ≠ j := by
      intro he; rw [he, hby] at hb1; cases hb1
     have hoff : listed.getD e.k false = false := by
      cases hq : listed.getD e.k false with
      | false => rfl
      | true => exact absurd (hc _ hq j hb2) (by rw [hf]; simp)
     simp [hset _ hej, hoff, hupd]
   rw [hj'] at key
   exact key
   intro t ht'
   rw [hupd, if_neg, hb t ht']
   rintro rfl
   have : inD (l.take m) t = true := by
    unfold inD
    refine List.any_eq_true.2 ⟨o, List.mem_of_getElem? (i := j) (by rw [List.getElem?_take, if_pos hjm]; exact ho), ?_⟩
    rw [hd]; simp
   rw [this] at ht'; cases ht'
   intro i d' hi hd'
   rw [hupd]
   by_cases e : d' = d
   subst e; rw [if_pos rfl]; exact hp
   rw [if_neg e]
   rcases Zb6 hi with rfl | h
   rw [ho] at hd'
   simp only [Option.bind_some] at hd'
   rw [hd] at hd'
   exact absurd (Option.some.inj hd').symm e
   exact (tab d').mono hs2 (hv i d' h hd')
   intro k c hk hi
   have hkj : k ≠ j := by
    intro e; rw [e, hby] at hk; cases hk
   rw [hset k hkj] at hi
   obtain ⟨hk0, _, _, him, hbit, hdst⟩ := Zq2 hco hk
   have hli := hc _ hi _ hbit
   have hne : c.d ≠ d := by
    refine Za5 (E1 hok) (i := c.mk_) (j := j) (fun he => by rw [he, hf] at hli; cases hli) ?_ ?_
    rw [List.getElem?_take, if_pos him]; exact hdst
    rw [List.getElem?_take, if_pos hjm, ho]; exact hd
   rw [hupd, if_neg hne]
   exact c.qm hs2 (hqs k c hk hi)
  | some c =>
   rw [hby] at hstep
   obtain ⟨hc1, hof, _, him, hbit, hdst⟩ := Zq2 hco hby
   have hij : c.mk_ ≠ j := by
    intro he
    have := hmk _ hbit
    rw [he, hf] at this; cases this
   have honi := hmk _ hbit
   have hgi : U6 tab con l f (fun i => listed.getD i false) c.mk_ = (tab c.d).res (f c.d) := by
    simp only [U6, honi, hdst, hof, hc1, hf]; rfl
   have hsp := Zs6 (g := U6 tab con l f fun i => listed.getD i false) (j := c.mk_) (List.range m) List.nodup_range (List.mem_range.2 him)
   rw [hgi] at hsp
   have hS1 := hS.perm (List.Perm.append_right L hsp.symm)
   rw [List.append_assoc] at hS1
   refine J7 ho ha (hstep f w H' _ Z4 hS1 hb (fun i d hi hd => hv i d (hmk i hi) hd) (fun k c hk hi => hqs k c hk (hmk k hi))) ?_
   rintro f' a' w' ha' ⟨H'', hd, rfl, hs2, hS2, hq2⟩
   refine ih (listed.setIfInBounds j true) a' w' f' H'' (by simpa using hs) hcnt' hlt' hc' ha' (Z4.trans hs2) ?_ hb ?_ ?_
   rw [← List.append_assoc] at hS2
   refine hS2.perm (List.Perm.append_right L ?_)
   have hsp2 := Zs6 (g := U6 tab con l f' fun i => (listed.setIfInBounds j true).getD i false) (j := c.mk_) (List.range m) List.nodup_range (List.mem_range.2 him)
   have hgi2 : U6 tab con l f' (fun i => (listed.setIfInBounds j true).getD i false) c.mk_ = c.r (f' c.x) (f' c.d) := by
    simp only [U6, hset _ hij, honi, hdst, hof, hc1, hsj]; rfl
   rw [hgi2] at hsp2
   have hrest : ((List.range m).flatMap fun i => if i = c.mk_ then [] else U6 tab con l f' (fun i => (listed.setIfInBounds j true).getD i false) i) = (List.range m).flatMap fun i => if i = c.mk_ then [] else U6 tab con l f' (fun i => listed.getD i false) i := by
    refine Zp4 _ (fun i hi => ?_)
    by_cases e : i = c.mk_
    rw [if_pos e, if_pos e]
    rw [if_neg e, if_neg e]
    by_cases eij : i = j
    subst eij
    have : (l[i]?).bind (·.dst) = none := by rw [ho]; exact hd
    simp only [U6, this, hf, hsj]; rfl
    simp only [U6, hset i eij]
    cases hdi : (l[i]?).bind (·.dst) with
    | none => rfl
    | some d =>
     cases he' : con.of i with
     | none => rfl
     | some e' =>
      have hne2 : e'.k ≠ j := by
       intro hk
       have h1 := (D1 hco he').2.1
       rw [hk, hby] at h1
       have h2 := (D1 hco he').1
       rw [← Option.some.inj h1] at h2
       exact e h2.symm
      simp only [hset e'.k hne2]
   rw [hrest] at hsp2
   exact hsp2
   intro i d' hi hd'
   rcases Zb6 hi with rfl | h
   rw [ho] at hd'
   simp only [Option.bind_some] at hd'
   rw [hd] at hd'; cases hd'
   exact (tab d').mono hs2 (hv i d' h hd')
   intro k e hk hi
   by_cases hkj : k = j
   subst hkj
   rw [hby] at hk; cases hk
   exact hq2
   rw [hset k hkj] at hi
   exact e.qm hs2 (hqs k e hk hi)
end
theorem W7 {P : Program} {n : Nat} {g : FuncId} {R : Ending → World → Prop} {K : List Item} {l : List Oper} {id : Nat} {H : FH} {L : OL} {f0 : Fr} {w : World}
 (m : Nat) (tab : Nat → MP) (con : Con) (hmix : P.follows .mixedOrders = true) (hok : Zg8 l m = true) (hco : Zz9 con l m = true) (hml : Nat.ble m l.length = true) (hS : St H w L)
 (hq : J0 (Zc9 P n l m tab con H L f0) (l.take m) 0)
 (ht : ∀ (f : Fr) (w : World) (H' : FH), Sub H H' → St H' w ((List.range m).flatMap (U6 tab con l f fun _ => true) ++ L) → (∀ t, inD (l.take m) t = false → f t = f0 t) →
  (∀ i d, i < m → (l[i]?).bind (·.dst) = some d → (tab d).p H' (f d)) → (∀ k c, con.by_ k = some c → c.q H' (f c.d)) → X6 P n l.toArray (fun f' w' => Run P n g R K f' w') (l.drop m) f w) :
 Run P n g R (.code (.region id l.toArray true) :: K) f0 w := by
 intro a ha b cs hb hk
 have hml' : m ≤ l.length := by simpa [Nat.ble_eq] using hml
 have hwp : (Code.region id l.toArray true).wp P (Yc2 n (fun f' w' => Run P n g R K f' w')) a w := by
  refine wp_region_any hmix ?_
  have := Wn2 (P := P) (J := fun f' w' => Run P n g R K f' w') hok hco hml' hq ht l.length (Array.replicate l.length false) a w.drew f0 H (by simp) (by simp [List.countP_replicate]) ?_ ?_ ha (Sub.refl _) ?_ (fun _ _ => rfl) ?_ ?_
  simpa using this
  intro i hi; rw [Array.getD_eq_getD_getElem?, Array.getElem?_replicate] at hi; split at hi <;> simp at hi
  intro i hi; rw [Array.getD_eq_getD_getElem?, Array.getElem?_replicate] at hi; split at hi <;> simp at hi
  have : (List.range m).flatMap (U6 tab con l f0 fun i => (Array.replicate l.length false).getD i false) = [] := by
   rw [List.flatMap_eq_nil_iff]
   intro i _
   have : (Array.replicate l.length false).getD i false = false := by rw [Array.getD_eq_getD_getElem?, Array.getElem?_replicate]; split <;> rfl
   simp only [U6, this]; rfl
  rw [this]; exact hS.drew
  intro i d hi; rw [Array.getD_eq_getD_getElem?, Array.getElem?_replicate] at hi; split at hi <;> simp at hi
  intro k c _ hi; rw [Array.getD_eq_getD_getElem?, Array.getElem?_replicate] at hi; split at hi <;> simp at hi
 obtain ⟨e, a', w', ⟨rfl, f', ha', hJ⟩, harr⟩ := hwp b K cs
 obtain ⟨e, w'', fr, hR, hc, hf, hl⟩ := hJ a' ha' b cs hb hk
 exact ⟨e, w'', fr, hR, .of_steps harr hc, hf, hl⟩
def X8 {α : Type} (τ : Ty α) (E : TypeId) (H : FH) (v : Value) (xs : List α) (C : OL) : Prop :=
 (v = .slice none 0 0 ∧ xs = [] ∧ C = []) ∨ ∃ b c cs, v = .slice (some ⟨b, 0, none⟩) xs.length c ∧ xs.length ≤ c ∧ c ≤ maxLen ∧ cs.size = c * τ.size ∧ C = [(b, .cells cs E)] ∧
  ∀ i x, xs[i]? = some x → ∃ ecs, τ.rel H ecs x ∧ ∀ j, j < τ.size → cs[i * τ.size + j]? = ecs[j]?
theorem X8.mono {α : Type} {τ : Ty α} {E : TypeId} {H H' : FH} {v : Value} {xs : List α} {C : OL} (hs : Sub H H') (h : X8 τ E H v xs C) : X8 τ E H' v xs C := by
 rcases h with h | ⟨b, c, cs, hv, h1, h2, h3, h4, h5⟩
 exact .inl h
 exact .inr ⟨b, c, cs, hv, h1, h2, h3, h4, fun i x hx => let ⟨ecs, hr, hj⟩ := h5 i x hx; ⟨ecs, τ.mono hs hr, hj⟩⟩
theorem X8.nil {α : Type} (τ : Ty α) (E : TypeId) (H : FH) : X8 τ E H (.slice none 0 0) [] [] := .inl ⟨rfl, rfl, rfl⟩
theorem X8.freeze {α : Type} {τ : Ty α} {E : TypeId} {H : FH} {v : Value} {xs : List α} {C L : OL} {w : World} (h : X8 τ E H v xs C) (hS : St H w (C ++ L)) :
 ∃ H', Sub H H' ∧ St H' w L ∧ Y3 τ H' v xs := by
 rcases h with ⟨rfl, rfl, rfl⟩ | ⟨b, c, cs, rfl, h1, h2, h3, rfl, h5⟩
 exact ⟨H, Sub.refl _, hS, none, 0, ⟨rfl, by simp⟩, .inl rfl⟩
 have hS' : St H w ((b, .cells cs E) :: L) := hS
 have Z4 := Sub.add (o := .cells cs E) hS'.none
 refine ⟨_, Z4, hS'.freeze, _, c, ⟨rfl, by simp only [maxLen] at h2; omega⟩, .inr ⟨b, 0, cs, (E, 0, 0), rfl, FH.add_self .., fun i x hx => ?_⟩⟩
 obtain ⟨ecs, hr, hj⟩ := h5 i x hx
 exact ⟨ecs, τ.mono Z4 hr, fun j hj' => by rw [Nat.zero_add]; exact hj j hj'⟩
structure ApI (P : Program) (T E : TypeId) (s bytes : Nat) (z : Value) : Prop where
 under : P.underlying T = some (.slice E)
 info : ∃ i, P.info? E = some i ∧ i.zero = some z ∧ i.size = s ∧ i.bytes = bytes
 zs : z.cells.size = s
 pos : 0 < s
 small : bytes ≤ 128
theorem Xh6 {α : Type} {τ : Ty α} {H : FH} {cs : Array Value} {o : Nat} {xs : List α}
 (h : ∀ i x, xs[i]? = some x → ∃ ecs, τ.rel H ecs x ∧ ∀ j, j < τ.size → cs[o + i * τ.size + j]? = ecs[j]?) :
 ∃ news : List Value, news.length = xs.length * τ.size ∧ (∀ u, u ∈ news → u.oneCell' = true) ∧ (∀ j u, news[j]? = some u → cs[o + j]? = some u) ∧
  ∀ i x, xs[i]? = some x → ∃ ecs, τ.rel H ecs x ∧ ∀ j, j < τ.size → news[i * τ.size + j]? = ecs[j]? := by
 induction xs generalizing o with
 | nil => exact ⟨[], by simp, by simp, by simp, by simp⟩
 | cons x xs ih =>
  obtain ⟨e0, hr0, hj0⟩ := h 0 x rfl
  obtain ⟨news, hl, h1, hc, hx⟩ := ih (o := o + τ.size) (fun i y hy => by
   obtain ⟨e, hr, hj⟩ := h (i + 1) y (by simpa using hy)
   refine ⟨e, hr, fun j hjs => ?_⟩
   rw [← hj j hjs]; congr 1; rw [Nat.add_mul]; omega)
  have hl0 := τ.len hr0
  refine ⟨e0 ++ news, by rw [List.length_append, hl, hl0, List.length_cons, Nat.add_mul]; omega, ?_, ?_, ?_⟩
  intro u hu
  exact (List.mem_append.1 hu).elim (τ.one hr0 u) (h1 u)
  intro j u hu
  by_cases hj : j < τ.size
  rw [List.getElem?_append_left (by omega)] at hu
  have := hj0 j hj
  simp only [Nat.zero_mul, Nat.add_zero] at this
  rw [this]; exact hu
  rw [List.getElem?_append_right (by omega), hl0] at hu
  have := hc (j - τ.size) u hu
  rwa [show o + τ.size + (j - τ.size) = o + j by omega] at this
  intro i y hy
  cases i with
  | zero =>
   simp at hy; subst hy
   refine ⟨e0, hr0, fun j hj => ?_⟩
   rw [Nat.zero_mul, Nat.zero_add, List.getElem?_append_left (by omega)]
  | succ i =>
   obtain ⟨e, hr, hj⟩ := hx i y (by simpa using hy)
   refine ⟨e, hr, fun j hjs => ?_⟩
   rw [List.getElem?_append_right (by rw [hl0, Nat.add_mul]; omega), hl0, ← hj j hjs]
   congr 1; rw [Nat.add_mul]; omega
theorem Xp8 {α : Type} {τ : Ty α} {P : Program} {T E ty : TypeId} {s bytes : Nat} {z : Value} (t : ApI P T E s bytes z) (hs : τ.size = s) {H : FH} {w : World} {L C : OL} {v u : Value} {xs ys : List α}
 (ho : X8 τ E H v xs C) (hS : St H w (C ++ L)) (hu : Y3 τ H u ys) (hb : xs.length + ys.length ≤ 1099511627776) :
 ∃ v' w' C', (Builtin.append_ #[T, T] ty #[v, u]).run P w = .ok v' w' ∧ X8 τ E H v' (xs ++ ys) C' ∧ St H w' (C' ++ L) := by
 subst hs
 obtain ⟨info, hi, hz, hsz, hby⟩ := t.info
 have hsmall := t.small
 have hbytes : (xs.length + ys.length) * info.bytes ≤ 140737488355328 := by
  rw [hby]
  calc (xs.length + ys.length) * bytes ≤ 1099511627776 * 128 := Nat.mul_le_mul hb hsmall
   _ = 140737488355328 := by decide
 obtain ⟨a, cu, ⟨hu, _⟩, hu'⟩ := hu
 subst hu
 rcases hu' with rfl | ⟨b2, o2, cs2, E2, rfl, hb2, hc2⟩
 refine ⟨v, w, C, ?_, by simpa using ho, hS⟩
 rcases ho with ⟨rfl, rfl, rfl⟩ | ⟨b, c, cs, rfl, h1, h2, h3, rfl, h5⟩ <;> cases a
 simp [Builtin.append_, run_underlying t.under, sizeOf, typeInfo, hi, Builtin.lenOf, Builtin.firstCells]
 simp [Builtin.append_, run_underlying t.under, sizeOf, typeInfo, hi, Builtin.lenOf, Builtin.firstCells, loadCells, loadCellsFrom]
 simp [Builtin.append_, run_underlying t.under, sizeOf, typeInfo, hi, Builtin.lenOf, Builtin.firstCells, h1, storeCells]
 simp [Builtin.append_, run_underlying t.under, sizeOf, typeInfo, hi, Builtin.lenOf, Builtin.firstCells, h1, storeCells, loadCells, loadCellsFrom]
 obtain ⟨news, hnl, hn1, hnc, hnx⟩ := Xh6 hc2
 have hw2 := hS.froz _ _ hb2
 have hcell : ∀ j u, news[j]? = some u → w.cell? ((⟨b2, o2, none⟩ : Addr).add j) = some u := fun j u hj => by
  rw [R7, Yd4 hw2]; exact hnc j u hj
 rw [← hsz] at hnl
 rcases ho with ⟨rfl, rfl, rfl⟩ | ⟨b, c, cs, rfl, h1, h2, h3, rfl, h5⟩
 by_cases h0 : ys.length = 0
 have hy : ys = [] := List.eq_nil_of_length_eq_zero h0
 subst hy
 have hn : news = [] := List.eq_nil_of_length_eq_zero (by simpa using hnl)
 refine ⟨.slice none 0 0, w, [], ?_, X8.nil _ _ _, hS⟩
 simp [Builtin.append_, run_underlying t.under, sizeOf, typeInfo, hi, Builtin.lenOf, Builtin.firstCells, loadCells, loadCellsFrom]
 have hr := run_append_nil (P := P) w T ty E info z t.under hi hz ⟨b2, o2, none⟩ ys.length cu news hnl hcell (by omega) (by simp only [List.length_nil] at hb; omega) (by simp only [List.length_nil, Nat.zero_add] at hbytes; omega)
 refine ⟨_, _, _, hr, .inr ⟨w.heap.size, grownCap w ys.length 0 E, _, by simp, ?_, ?_, ?_, rfl, ?_⟩, (hS.drew).alloc _⟩
 exact grownCap_ge w _ _ _
 exact grownCap_le_maxLen w _ _ _ (by simp only [maxLen, List.length_nil] at *; omega)
 have := grownCap_ge w ys.length 0 E
 rw [Array.size_append, size_zeroCells, t.zs, List.size_toArray, hnl, hsz, ← Nat.add_mul]
 congr 1; omega
 intro i x hx
 rw [List.nil_append] at hx
 obtain ⟨ecs, hr', hj⟩ := hnx i x hx
 refine ⟨ecs, hr', fun j hjs => ?_⟩
 rw [← hj j hjs]
 have hlt : i < ys.length := (List.getElem?_eq_some_iff.1 hx).1
 have : i * τ.size + j < news.length := by
  rw [hnl, hsz]
  calc i * τ.size + j < i * τ.size + τ.size := by omega
   _ = (i + 1) * τ.size := by rw [Nat.add_mul]; omega
   _ ≤ ys.length * τ.size := Nat.mul_le_mul_right _ hlt
 rw [Array.getElem?_append_left (by simpa using this)]; simp
 have hS' : St H w ((b, .cells cs E) :: L) := hS
 have hb := hS'.hd
 obtain ⟨olds, hol, ho1, hoc, hox⟩ := Xh6 (o := 0) (cs := cs) (fun i x hx => by
  obtain ⟨e, hr, hj⟩ := h5 i x hx
  exact ⟨e, hr, fun j hjs => by rw [Nat.zero_add]; exact hj j hjs⟩)
 have both : ∀ i x, (xs ++ ys)[i]? = some x → ∃ ecs, τ.rel H ecs x ∧ ∀ j, j < τ.size → (olds ++ news)[i * τ.size + j]? = ecs[j]? := by
  intro i x hx
  by_cases hlt : i < xs.length
  rw [List.getElem?_append_left hlt] at hx
  obtain ⟨e, hr, hj⟩ := hox i x hx
  refine ⟨e, hr, fun j hjs => ?_⟩
  rw [← hj j hjs, List.getElem?_append_left]
  rw [hol]
  calc i * τ.size + j < i * τ.size + τ.size := by omega
   _ = (i + 1) * τ.size := by rw [Nat.add_mul]; omega
   _ ≤ xs.length * τ.size := Nat.mul_le_mul_right _ hlt
  rw [List.getElem?_append_right (by omega)] at hx
  obtain ⟨e, hr, hj⟩ := hnx _ x hx
  refine ⟨e, hr, fun j hjs => ?_⟩
  have hmul : xs.length * τ.size ≤ i * τ.size := Nat.mul_le_mul_right _ (by omega)
  rw [← hj j hjs, List.getElem?_append_right (by rw [hol]; omega), hol]
  congr 1
  rw [Nat.sub_mul]; omega
 by_cases hroom : xs.length + ys.length ≤ c
 have hfit : xs.length * info.size + news.length ≤ cs.size := by rw [hnl, h3, ← Nat.add_mul, hsz]; exact Nat.mul_le_mul_right _ hroom
 have hr := run_append_room (P := P) w T ty E info t.under hi b xs.length c cs hb ⟨b2, o2, none⟩ ys.length cu news hnl hcell hn1 hroom hfit
 have hset : w.setRow b (cs.toList.take (xs.length * info.size) ++ news ++ cs.toList.drop (xs.length * info.size + news.length)).toArray =
  World.withBlk w b (.cells (cs.toList.take (xs.length * info.size) ++ news ++ cs.toList.drop (xs.length * info.size + news.length)).toArray E) := by
  unfold World.setRow World.withBlk
  congr 1
  apply Array.ext_getElem?
  intro k
  rw [Array.getElem?_modify, Array.getElem?_setIfInBounds]
  by_cases e : b = k
  subst e
  have := Zg0 hb
  rw [hb]; simp [this]
  simp [e]
 rw [hset] at hr
 refine ⟨_, _, _, hr, .inr ⟨b, c, _, by rw [List.length_append], by rw [List.length_append]; exact hroom, h2, ?_, rfl, ?_⟩, hS'.withBlk _⟩
 simp only [List.size_toArray, List.length_append, List.length_take, List.length_drop, Array.length_toList]
 rw [← h3]; omega
 have htake : cs.toList.take (xs.length * info.size) = olds := by
  apply List.ext_getElem?
  intro k
  rw [List.getElem?_take]
  split
  rename_i hk
  have hko : k < olds.length := by rw [hol, ← hsz]; exact hk
  have := hoc k olds[k] (by simp [hko])
  rw [Nat.zero_add] at this
  rw [Array.getElem?_toList, this]; simp [hko]
  rename_i hk
  rw [List.getElem?_eq_none]; rw [hol, ← hsz]; omega
 intro i x hx
 obtain ⟨e, hr', hj⟩ := both i x hx
 refine ⟨e, hr', fun j hjs => ?_⟩
 rw [← hj j hjs, htake]
 have hlt : i < (xs ++ ys).length := (List.getElem?_eq_some_iff.1 hx).1
 have : i * τ.size + j < (olds ++ news).length := by
  rw [List.length_append, hol, hnl, hsz, ← Nat.add_mul]
  calc i * τ.size + j < i * τ.size + τ.size := by omega
   _ = (i + 1) * τ.size := by rw [Nat.add_mul]; omega
   _ ≤ (xs.length + ys.length) * τ.size := Nat.mul_le_mul_right _ (by rw [List.length_append] at hlt; exact hlt)
 rw [List.getElem?_toArray, List.getElem?_append_left this]
 have holds : ∀ j u, olds[j]? = some u → w.cell? ((⟨b, 0, none⟩ : Addr).add j) = some u := fun j u hj => by
  rw [R7, Yd4 hb]; have := hoc j u hj; exact this
 have hr := run_append_grow (P := P) w T ty E info z t.under hi hz ⟨b, 0, none⟩ xs.length c olds (by rw [hol, hsz]) holds ⟨b2, o2, none⟩ ys.length cu news hnl hcell (by omega) (by omega) (growslice_fits (by omega) hbytes)
 refine ⟨_, _, _, hr, .inr ⟨w.heap.size, grownCap w (xs.length + ys.length) c E, _, by rw [List.length_append], ?_, ?_, ?_, rfl, ?_⟩, (hS'.tl.drew).alloc _⟩
 rw [List.length_append]; exact grownCap_ge w _ _ _
 exact grownCap_le_maxLen w _ _ _ (by simp only [maxLen]; omega)
 have := grownCap_ge w (xs.length + ys.length) c E
 rw [Array.size_append, Array.size_append, size_zeroCells, t.zs, List.size_toArray, List.size_toArray, hnl, hol, hsz, ← Nat.add_mul, ← Nat.add_mul]
 congr 1; omega
 intro i x hx
 obtain ⟨e, hr', hj⟩ := both i x hx
 refine ⟨e, hr', fun j hjs => ?_⟩
 rw [← hj j hjs]
 have hlt : i < (xs ++ ys).length := (List.getElem?_eq_some_iff.1 hx).1
 have : i * τ.size + j < (olds ++ news).length := by
  rw [List.length_append, hol, hnl, hsz, ← Nat.add_mul]
  calc i * τ.size + j < i * τ.size + τ.size := by omega
   _ = (i + 1) * τ.size := by rw [Nat.add_mul]; omega
   _ ≤ (xs.length + ys.length) * τ.size := Nat.mul_le_mul_right _ (by rw [List.length_append] at hlt; exact hlt)
 rw [Array.getElem?_append_left (by simpa using this), List.append_toArray]; simp
end Go.Proofs.YtabofnehiclkiaaGreat
