/- Walk, rules and plain laws. -/
import Derived.Tactics
import Derived.Orders
import Derived.WalkKit
import Derived.Laws.AppendOwn
namespace Go.Proofs.YtabofnehiclkiaaGreat
open Go IntKind IntWalk List
open Option (bind_some)
set_option linter.all false
set_option maxRecDepth 100000
set_option maxHeartbeats 8000000
theorem U {α : Sort _} {a : α} : a = a := rfl
theorem Ut {α : Sort _} {a : α} : a = a ∧ True := ⟨rfl, trivial⟩
abbrev Fr := Nat → Value
def upd (f : Fr) (d : Nat) (v : Value) : Fr := fun t => bif Nat.beq t d then v else f t
def ev (f : Fr) : Operand → Value
 | .tmp t => f t
 | .const v => v
 | .global g => .pointer (some ⟨g, 0, none⟩)
 | .func k => .func (.func k) #[] #[]
structure Zh2 (n : Nat) (a : Act) (f : Fr) : Prop where
 size : a.tmps.size = n
 defers : a.defers = []
 slots : ∀ t, a.tmps.getD t undef = f t
theorem Zh2.eval {n : Nat} {a : Act} {f : Fr} (h : Zh2 n a f) : a.eval = ev f := by
 funext x
 cases x with
 | tmp t => exact h.slots t
 | _ => rfl
theorem Zh2.put {n : Nat} {a : Act} {f : Fr} (h : Zh2 n a f) {d : Nat} (hd : Nat.blt d n = true) (v : Value) : Zh2 n (a.put (some d) v) (upd f d v) := by
 have hd' : d < n := by simpa [Nat.blt_eq] using hd
 refine ⟨by simp [Act.put, h.size], h.defers, fun t => ?_⟩
 unfold upd
 by_cases e : t = d
 subst e
 have : t < a.tmps.size := by rw [h.size]; exact hd'
 simp [Act.put, Array.getD_eq_getD_getElem?, this]
 have hb : Nat.beq t d = false := by
  cases hq : Nat.beq t d with
  | false => rfl
  | true => exact absurd (Nat.eq_of_beq_eq_true hq) e
 rw [hb]
 have := h.slots t
 simp only [Act.put, Array.getD_eq_getD_getElem?, cond_false]
 rw [Array.getElem?_setIfInBounds_ne (fun h => e h.symm)]
 simpa [Array.getD_eq_getD_getElem?] using this
def Run (P : Program) (n : Nat) (g : FuncId) (R : Ending → World → Prop) (K : List Item) (f : Fr) (w : World) : Prop :=
 ∀ a, Zh2 n a f → ∀ (b : Frame) (cs : List Frame), b.fn = g → b.kind = .normal →
  ∃ e w' fr, R e w' ∧ Comes P (lone (b.at a K) cs w) (lone fr cs w') e ∧ fr.fn = g ∧ fr.leaving P w' e
section
variable {P : Program} {n : Nat} {g : FuncId} {R : Ending → World → Prop} {K : List Item} {f : Fr} {w : World}
theorem X0 {fn : Func} {c : Code} {args : Array Value} (hf : P.funcs[g]? = some fn) (hb : fn.body = some c) (hn : fn.ntmps = n) (hs : Nat.ble args.size n = true)
 (h : Run P n g R [.code c] (fun t => args.toList.getD t undef) w) : Calls P g args w R := by
 intro cs
 let b : Frame := { (default : Frame) with fn := g, kind := .normal }
 have henter : Frame.enter P g args .normal =
  b.at { tmps := args ++ Array.replicate (fn.ntmps - args.size) undef, defers := [] } [.code c] := by
  simp [Frame.enter, Frame.at, hf, hb, b]
 rw [henter]
 have hs' : args.size ≤ n := by simpa [Nat.ble_eq] using hs
 refine h _ ⟨?_, U, fun t => ?_⟩ b cs U U
 simp [hn]; omega
 simp only [Array.getD_eq_getD_getElem?, getD_eq_getElem?_getD]
 rw [Array.getElem?_append]
 split
 simp
 rename_i hlt
 rw [Array.getElem?_replicate]
 have : args.toList[t]? = none := by simp; omega
 rw [this]
 split <;> rfl
theorem Zy8 {K' : List Item} (hs : ∀ (b : Frame) (a : Act) (cs : List Frame), Zh2 n a f → step P (lone (b.at a K) cs w) = .next (lone (b.at a K') cs w))
 (h : Run P n g R K' f w) : Run P n g R K f w := by
 intro a ha b cs hb hk
 obtain ⟨e, w', fr, hR, hc, hf, hl⟩ := h a ha b cs hb hk
 exact ⟨e, w', fr, hR, .of_steps (.one (hs b a cs ha)) hc, hf, hl⟩
theorem Z1 {x y : Code} (h : Run P n g R (.code x :: .code y :: K) f w) : Run P n g R (.code (.seq x y) :: K) f w :=
 Zy8 (fun _ _ _ _ => step_seq) h
theorem Y6 (h : Run P n g R K f w) : Run P n g R (.code .skip :: K) f w :=
 Zy8 (fun _ _ _ _ => step_skip) h
theorem Y8 {id : Nat} {c : Code} (h : Run P n g R (.code c :: .inBlock id :: K) f w) : Run P n g R (.code (.block id c) :: K) f w :=
 Zy8 (fun _ _ _ _ => step_block) h
theorem X1 {id : Nat} (h : Run P n g R K f w) : Run P n g R (.inBlock id :: K) f w :=
 Zy8 (fun _ _ _ _ => step_inBlock) h
theorem Wk1 {c : Code} (h : Run P n g R (.code c :: .inLoop c :: K) f w) : Run P n g R (.inLoop c :: K) f w :=
 Zy8 (fun _ _ _ _ => step_inLoop) h
theorem Wx8 {c : Code} (h : Run P n g R (.code c :: .inLoop c :: K) f w) : Run P n g R (.code (.loop c) :: K) f w :=
 Zy8 (fun _ _ _ _ => step_loop) h
theorem W2 {id : Nat} {K' : List Item} (he : exitTo id K = some K') (h : Run P n g R K' f w) : Run P n g R (.code (.exit id) :: K) f w :=
 Zy8 (fun _ _ _ _ => step_exit he) h
theorem Xz1 {c : Operand} {x y : Code} {t : Bool} (hc : ev f c = .bool t) (ht : t = true → Run P n g R (.code x :: K) f w) (hf : t = false → Run P n g R (.code y :: K) f w) :
 Run P n g R (.code (.cond c x y) :: K) f w := by
 refine Zy8 (K' := .code (if t then x else y) :: K) (fun b a cs ha => step_cond (by rw [ha.eval]; exact hc)) ?_
 cases t
 exact hf U
 exact ht U
theorem Z8 {c : Operand} {x y : Code} (hc : ev f c = .bool true) (h : Run P n g R (.code x :: K) f w) : Run P n g R (.code (.cond c x y) :: K) f w :=
 Xz1 hc (fun _ => h) (fun h => by cases h)
theorem Z6 {c : Operand} {x y : Code} (hc : ev f c = .bool false) (h : Run P n g R (.code y :: K) f w) : Run P n g R (.code (.cond c x y) :: K) f w :=
 Xz1 hc (fun h => by cases h) (fun _ => h)
def Xa3 (P : Program) (w : World) (f : Fr) : List ResultVar → List Value → Prop
 | [], [] => True
 | .tmp t :: rs, v :: vs => f t = v ∧ Xa3 P w f rs vs
 | .cell a t :: rs, v :: vs => (∃ ad, f a = .pointer (some ad) ∧ (loadVar t ad).run P w = .ok v w) ∧ Xa3 P w f rs vs
 | _, _ => False
def Xl2 : List Value → Value
 | [v] => v
 | vs => .tuple vs.toArray
theorem F4 {α β : Type} {e : Sem α} {k : α → Sem β} {w w' : World} {a : α} (h : e.run P w = .ok a w') : (e >>= k).run P w = (k a).run P w' := by
 rw [Sem.run_bind, h]; rfl
theorem Yn1 {a : Act} (ha : Zh2 n a f) : ∀ (rs : List ResultVar) (vs : List Value), Xa3 P w f rs vs →
 ((rs.mapM fun (x : ResultVar) => match x with
  | .tmp t => (pure (a.tmps.getD t undef) : Sem Value)
  | .cell ad t => do loadVar t (← asAddr (a.tmps.getD ad undef))).run P w) = .ok vs w
 | [], [], _ => rfl
 | .tmp t :: rs, v :: vs, h => by
  have ih := Yn1 ha rs vs h.2
  rw [mapM_cons]
  have h1 : ((pure (a.tmps.getD t undef) : Sem Value)).run P w = .ok v w := by
   rw [ha.slots t, h.1]; rfl
  rw [F4 h1, F4 ih]; rfl
 | .cell ad t :: rs, v :: vs, h => by
  have ih := Yn1 ha rs vs h.2
  obtain ⟨p, hp, hl⟩ := h.1
  rw [mapM_cons]
  have h1 : (do loadVar t (← asAddr (a.tmps.getD ad undef)) : Sem Value).run P w = .ok v w := by
   rw [ha.slots ad, hp]; exact hl
  rw [F4 h1, F4 ih]; rfl
 | [], _ :: _, h => h.elim
 | .tmp _ :: _, [], h => h.elim
 | .cell _ _ :: _, [], h => h.elim
theorem Xd0 {a : Act} (ha : Zh2 n a f) {fn : Func} {vs : List Value} (h : Xa3 P w f fn.results.toList vs) :
 (results fn a.tmps).run P w = .ok (Xl2 vs) w := by
 unfold results
 rw [Array.mapM_eq_mapM_toList]
 simp only [Sem.run_bind, Sem.run_map]
 refine (congrArg (fun (r : Result (List Value)) => (r.andThen fun a w' => Result.ok a.toArray w').andThen fun vs w' => Sem.run P (pure (if h : vs.size = 1 then vs[0] else .tuple vs)) w') (Yn1 (P := P) ha _ _ h)).trans ?_
 simp only [Result.andThen_ok]
 cases vs with
 | nil => rfl
 | cons v vs =>
  cases vs with
  | nil => rfl
  | cons u us => simp [Xl2]
theorem Y9 {fn : Func} {vs : List Value} (hf : P.funcs[g]? = some fn) (h : Xa3 P w f fn.results.toList vs) (hR : R (.returned (Xl2 vs)) w) :
 Run P n g R (.code .ret :: K) f w := by
 intro a ha b cs hb hk
 exact ⟨.returned _, w, _, hR, .one step_ret, hb, U, ha.defers, hk, fn, by simpa [Frame.at, hb] using hf, Xd0 ha h⟩
theorem Ys7 {fn : Func} {vs : List Value} (hf : P.funcs[g]? = some fn) (h : Xa3 P w f fn.results.toList vs) (hR : R (.returned (Xl2 vs)) w) :
 Run P n g R [] f w := by
 intro a ha b cs hb hk
 exact ⟨.returned _, w, _, hR, .one step_end, hb, U, ha.defers, hk, fn, by simpa [Frame.at, hb] using hf, Xd0 ha h⟩
def X7 (P : Program) (n : Nat) (ops : Array Oper) (J : Fr → World → Prop) (l : List Oper) (f : Fr) (w : World) : Prop :=
 ∀ a, Zh2 n a f → wpList P ops (fun e a' w' => e = .normal ∧ ∃ f', Zh2 n a' f' ∧ J f' w') l a w
theorem Z0 {id : Nat} {l : List Oper} (h : X7 P n l.toArray (fun f' w' => Run P n g R K f' w') l f w) : Run P n g R (.code (.region id l.toArray false) :: K) f w := by
 intro a ha b cs hb hk
 obtain ⟨e, a', w', ⟨rfl, f', ha', hJ⟩, harr⟩ := wp_region_lit (id := id) (h a ha) b K cs
 obtain ⟨e, w'', fr, hR, hc, hf, hl⟩ := hJ a' ha' b cs hb hk
 exact ⟨e, w'', fr, hR, .of_steps harr hc, hf, hl⟩
end
section
variable {P : Program} {n : Nat} {ops : Array Oper} {J : Fr → World → Prop} {r : List Oper} {f : Fr} {w : World}
theorem Z2 (h : J f w) : X7 P n ops J [] f w := fun _ ha => ⟨U, f, ha, h⟩
theorem U2 {o : Oper} {d : Nat} {v : Value} {w' : World} (hg : o.guard = none) (hd : o.dst = some d) (hn : Nat.blt d n = true)
 (hr : (execOp (ev f) o).run P w = .ok (.value v) w') (k : X7 P n ops J r (upd f d v) w') : X7 P n ops J (o :: r) f w := by
 intro a ha
 unfold wpList
 rw [if_pos (by simp [Region.wanted, hg])]
 left
 unfold Oper.wp
 rw [ha.eval, hr, Oper.upon_value, hd]
 exact k _ (ha.put hn v)
theorem Wy1 {o : Oper} {v : Value} {w' : World} (hg : o.guard = none) (hd : o.dst = none)
 (hr : (execOp (ev f) o).run P w = .ok (.value v) w') (k : X7 P n ops J r f w') : X7 P n ops J (o :: r) f w := by
 intro a ha
 unfold wpList
 rw [if_pos (by simp [Region.wanted, hg])]
 left
 unfold Oper.wp
 rw [ha.eval, hr, Oper.upon_value, hd]
 exact k _ ha
theorem Ym2 {o : Oper} {w' : World} (hg : o.guard = none) (hd : o.dst = none)
 (hr : (execOp (ev f) o).run P w = .ok .skip w') (k : X7 P n ops J r f w') : X7 P n ops J (o :: r) f w := by
 intro a ha
 unfold wpList
 rw [if_pos (by simp [Region.wanted, hg])]
 left
 unfold Oper.wp
 rw [ha.eval, hr, Oper.upon_skip, hd]
 exact k _ ha
theorem Xe3 {o : Oper} {d : Nat} {fid : FuncId} {args : Array Value} (hg : o.guard = none) (hd : o.dst = some d) (hn : Nat.blt d n = true)
 (hr : (execOp (ev f) o).run P w = .ok (.enter fid args) w) {C : Ending → World → Prop} (hc : Calls P fid args w C)
 (k : ∀ e w', C e w' → ∃ v, e = .returned v ∧ X7 P n ops J r (upd f d v) w') : X7 P n ops J (o :: r) f w := by
 intro a ha
 unfold wpList
 rw [if_pos (by simp [Region.wanted, hg])]
 left
 unfold Oper.wp
 rw [ha.eval, hr, Oper.upon_enter, hd]
 refine hc.mono fun e w' h => ?_
 obtain ⟨v, rfl, hk⟩ := k e w' h
 exact hk _ (ha.put hn v)
theorem Xk6 {a : Act} (ha : Zh2 n a f) {j d : Nat} {b : Bool} (hj : (ops[j]?).bind (·.dst) = some d) (hv : f d = .bool b) : yielded ops a.tmps j = some b := by
 unfold yielded
 rw [hj]
 simp only [bind_some]
 have h := ha.slots d
 rw [hv, Array.getD_eq_getD_getElem?] at h
 cases hq : a.tmps[d]? with
 | none => rw [hq] at h; simp [undef] at h
 | some v => rw [hq] at h; simp at h; subst h; rfl
theorem Y0 {o : Oper} {j d : Nat} {b : Bool} (hg : o.guard = some (j, b)) (hj : (ops[j]?).bind (·.dst) = some d) (hv : f d = .bool b)
 (k : X7 P n ops J ({ o with guard := none } :: r) f w) : X7 P n ops J (o :: r) f w := by
 intro a ha
 have := k a ha
 unfold wpList at this ⊢
 rw [if_pos (by simp [Region.wanted])] at this
 rw [if_pos (by simp [Region.wanted, hg, Xk6 ha hj hv])]
 exact this
theorem Z9 {o : Oper} {j d e : Nat} {b b' : Bool} (hg : o.guard = some (j, b)) (hj : (ops[j]?).bind (·.dst) = some d) (hv : f d = .bool b') (hb : (b' == b) = false)
 (hd : o.dst = some e) (hn : Nat.blt e n = true) (k : X7 P n ops J r (upd f e undef) w) : X7 P n ops J (o :: r) f w := by
 intro a ha
 unfold wpList
 rw [if_neg (by simp [Region.wanted, hg, Xk6 ha hj hv]; simpa using hb), hd]
 exact k _ (ha.put hn undef)
end
abbrev Yk9 := (Nat → Option Obj) → Obj → Prop
structure Kp where
 I : Yk9
 J : (Nat → Option Yk9) → Obj → Prop
 fc : Nat → Option Value
 lb : Bool
def Kp.pl (I : Yk9) : Kp := ⟨I, fun _ _ => True, fun _ => none, false⟩
def Kp.Le (e e' : Kp) : Prop := e' = e ∨ (e.lb = true ∧ e'.I = e.I ∧ e'.J = e.J ∧ e'.lb = true ∧ ∀ i v, e.fc i = some v → e'.fc i = some v)
theorem Kp.Le.refl (e : Kp) : e.Le e := .inl U
theorem Kp.Le.trans {a b c : Kp} (h : a.Le b) (h' : b.Le c) : a.Le c := by
 rcases h with rfl | ⟨h1, h2, h3, h4, h5⟩
 exact h'
 rcases h' with rfl | ⟨k1, k2, k3, k4, k5⟩
 exact .inr ⟨h1, h2, h3, h4, h5⟩
 exact .inr ⟨h1, k2.trans h2, k3.trans h3, k4, fun i v e => k5 i v (h5 i v e)⟩
theorem Kp.Le.pl {I : Yk9} {e : Kp} (h : (Kp.pl I).Le e) : e = Kp.pl I := by
 rcases h with h | ⟨h, _⟩
 exact h
 cases h
structure FH where
 fr : Nat → Option Obj
 memo : Nat → Option Kp
 base : Option ((Nat → Question → Nat) × Os × Array (Nat × ByteArray) × Nat × Nat)
instance : CoeFun FH (fun _ => Nat → Option Obj) := ⟨FH.fr⟩
abbrev OL := List (Nat × Obj)
def FH.lim (H : FH) : Nat := match H.base with | none => 0 | some t => t.2.2.2.2
def nz : Obj → Prop
 | .cells _ _ z => z = (0, 0)
 | _ => True
def Sub (H H' : FH) : Prop := (∀ b o, H b = some o → H' b = some o) ∧ (∀ b i, H.memo b = some i → ∃ i', H'.memo b = some i' ∧ i.Le i') ∧ H'.base = H.base
theorem Sub.refl (H : FH) : Sub H H := ⟨fun _ _ h => h, fun _ i h => ⟨i, h, .refl i⟩, U⟩
theorem Sub.trans {H H' H'' : FH} (h : Sub H H') (h' : Sub H' H'') : Sub H H'' := ⟨fun b o e => h'.1 b o (h.1 b o e), fun b o e => (let ⟨_, e1, l1⟩ := h.2.1 b o e; let ⟨i, e2, l2⟩ := h'.2.1 b _ e1; ⟨i, e2, l1.trans l2⟩), h'.2.2.trans h.2.2⟩
theorem Sub.memoPl {H H' : FH} (h : Sub H H') {b : Nat} {I : Yk9} (e : H.memo b = some (.pl I)) : H'.memo b = some (.pl I) := by
 obtain ⟨i, e1, l⟩ := h.2.1 b _ e
 rw [l.pl] at e1; exact e1
def FH.lab (H : FH) : Nat → Option Yk9 := fun b => (H.memo b).bind fun e => bif e.lb then some e.I else none
def Vg3 (G G' : Nat → Option Yk9) : Prop := ∀ b i, G b = some i → G' b = some i
theorem Sub.lab {H H' : FH} (h : Sub H H') : Vg3 H.lab H'.lab := by
 intro b i e
 unfold FH.lab at e ⊢
 cases hm : H.memo b with
 | none => rw [hm] at e; cases e
 | some k =>
  rw [hm] at e
  obtain ⟨k', e1, l⟩ := h.2.1 b k hm
  rw [e1]
  rcases l with rfl | ⟨h1, h2, h3, h4, _⟩
  exact e
  simp only [bind_some, h1, cond_true] at e
  simp only [bind_some, h4, cond_true, h2]; exact e
def Yx8 (F F' : Nat → Option Obj) : Prop := ∀ b o, F b = some o → F' b = some o
def Vl0 (I : Yk9) : Prop := ∀ F F' o, Yx8 F F' → I F o → I F' o
def Vm0 (J : (Nat → Option Yk9) → Obj → Prop) : Prop := ∀ G G' o, Vg3 G G' → J G o → J G' o
def Stl (fc : Nat → Option Value) (o : Obj) : Prop := ∀ i v, fc i = some v → ∃ cs E z, o = .cells cs E z ∧ cs[i]? = some v
structure St (H : FH) (w : World) (L : OL) : Prop where
 froz : ∀ b o, H b = some o → w.heap[b]? = some o
 memo : ∀ b e, H.memo b = some e → H b = none ∧ (Vl0 e.I ∧ Vm0 e.J) ∧ ∃ o, w.heap[b]? = some o ∧ e.I H.fr o ∧ e.J H.lab o ∧ Stl e.fc o
 rest : ∀ t, H.base = some t → w.tape = t.1 ∧ w.os = t.2.1 ∧ w.output = t.2.2.1 ∧ t.2.2.2.1 ≤ w.drawn
 nofz : ∀ b o, H b = some o → H.lim ≤ b → nz o
 own : ∀ x, x ∈ L → w.heap[x.1]? = some x.2
 nodup : (L.map Prod.fst).Nodup
 apart : ∀ x, x ∈ L → H x.1 = none ∧ H.memo x.1 = none
section
variable {H : FH} {w : World} {L A B C : OL} {b : Nat} {o o' : Obj}
theorem Zi0 {w : World} {b : Nat} {o : Obj} (h : w.heap[b]? = some o) : b < w.heap.size := by
 rcases Nat.lt_or_ge b w.heap.size with h' | h'
 exact h'
 simp [Array.getElem?_eq_none h'] at h
theorem St.hd (h : St H w ((b, o) :: L)) : w.heap[b]? = some o := h.own (b, o) (mem_cons_self ..)
theorem St.tl {x : Nat × Obj} (h : St H w (x :: L)) : St H w L :=
 ⟨h.froz, h.memo, h.rest, h.nofz, fun y hy => h.own y (mem_cons_of_mem _ hy), (nodup_cons.1 h.nodup).2, fun y hy => h.apart y (mem_cons_of_mem _ hy)⟩
theorem St.sub (h : St H w L) (hp : ∀ x, x ∈ A → x ∈ L) (hn : (A.map Prod.fst).Nodup) : St H w A :=
 ⟨h.froz, h.memo, h.rest, h.nofz, fun y hy => h.own y (hp y hy), hn, fun y hy => h.apart y (hp y hy)⟩
theorem St.perm (h : St H w L) (hp : A.Perm L) : St H w A :=
 h.sub (fun x hx => hp.mem_iff.1 hx) ((hp.map Prod.fst).nodup_iff.2 h.nodup)
theorem St.dA (h : St H w (A ++ L)) : St H w L := by
 refine h.sub (fun x hx => mem_append_right _ hx) ?_
 have := h.nodup
 rw [map_append] at this
 exact (nodup_append.1 this).2.1
theorem St.swap (h : St H w (A ++ (B ++ C))) : St H w (B ++ (A ++ C)) := by
 refine h.perm ?_
 rw [← append_assoc, ← append_assoc]
 exact perm_append_comm.append_right C
theorem St.drew (h : St H w L) : St H w.drew L := ⟨h.froz, h.memo, fun t ht => let ⟨a, b, c, d⟩ := h.rest t ht; ⟨a, b, c, Nat.le_succ_of_le d⟩, h.nofz, h.own, h.nodup, h.apart⟩
theorem St.alloc (h : St H w L) (o : Obj) : St H (w.alloc o) ((w.heap.size, o) :: L) := by
 have hlt : ∀ b o', w.heap[b]? = some o' → (w.alloc o).heap[b]? = some o' := fun b o' hb => by
  have := Zi0 hb
  show (w.heap.push o)[b]? = some o'
  rw [Array.getElem?_push, if_neg (by omega)]; exact hb
 refine ⟨fun b o' hb => hlt b o' (h.froz b o' hb), fun b I hb => let ⟨h1, h2, o', h3, h4⟩ := h.memo b I hb; ⟨h1, h2, o', hlt b o' h3, h4⟩, h.rest, h.nofz, ?_, ?_, ?_⟩
 intro x hx
 rcases mem_cons.1 hx with rfl | hx
 show (w.heap.push o)[w.heap.size]? = some o
 simp
 exact hlt _ _ (h.own x hx)
 rw [map_cons, nodup_cons]
 refine ⟨?_, h.nodup⟩
 intro hm
 obtain ⟨x, hx, he⟩ := mem_map.1 hm
 have := Zi0 (h.own x hx)
 simp only at he
 omega
 intro x hx
 rcases mem_cons.1 hx with rfl | hx
 constructor
 cases hH : H w.heap.size with
 | none => rfl
 | some o' => have := Zi0 (h.froz _ _ hH); omega
 cases hH : H.memo w.heap.size with
 | none => rfl
 | some I => obtain ⟨_, _, o', h3, _⟩ := h.memo _ _ hH; have := Zi0 h3; omega
 exact h.apart x hx
theorem St.put (h : St H w ((b, o) :: L)) (o' : Obj) : St H { w with heap := w.heap.setIfInBounds b o' } ((b, o') :: L) := by
 have hb := Zi0 h.hd
 have hnd := nodup_cons.1 h.nodup
 have hne : ∀ c, H c ≠ none ∨ H.memo c ≠ none → b ≠ c := by
  rintro c hc rfl
  have := h.apart _ (mem_cons_self ..)
  exact hc.elim (fun h => h this.1) (fun h => h this.2)
 refine ⟨fun c p hc => ?_, fun c I hc => ?_, h.rest, h.nofz, ?_, h.nodup, ?_⟩
 simp only [Array.getElem?_setIfInBounds]
 rw [if_neg (hne c (.inl (by rw [hc]; simp)))]; exact h.froz c p hc
 obtain ⟨h1, h2, p, h3, h4⟩ := h.memo c I hc
 refine ⟨h1, h2, p, ?_, h4⟩
 simp only [Array.getElem?_setIfInBounds]
 rw [if_neg (hne c (.inr (by rw [hc]; simp)))]; exact h3
 intro x hx
 simp only [Array.getElem?_setIfInBounds]
 rcases mem_cons.1 hx with rfl | hx
 simp [hb]
 have hne : b ≠ x.1 := by
  intro e
  exact hnd.1 (mem_map.2 ⟨x, hx, e.symm⟩)
 rw [if_neg hne]; exact h.own x (mem_cons_of_mem _ hx)
 intro x hx
 rcases mem_cons.1 hx with rfl | hx
 exact h.apart (b, o) (mem_cons_self ..)
 exact h.apart x (mem_cons_of_mem _ hx)
def FH.add (H : FH) (b : Nat) (o : Obj) : FH := ⟨fun c => if c = b then some o else H c, H.memo, H.base⟩
theorem Yx8.add {H : FH} {b : Nat} {o : Obj} (hn : H b = Option.none) : Yx8 H.fr (H.add b o).fr := by
 intro c p hc
 show (if c = b then some o else H c) = some p
 split
 rename_i e; subst e; rw [hn] at hc; cases hc
 exact hc
theorem Sub.add {H : FH} {b : Nat} {o : Obj} (hn : H b = Option.none) : Sub H (H.add b o) := ⟨Yx8.add hn, fun _ i h => ⟨i, h, .refl i⟩, U⟩
theorem FH.add_self (H : FH) (b : Nat) (o : Obj) : (H.add b o) b = some o := by show (if b = b then some o else H b) = some o; rw [if_pos U]
theorem St.none (h : St H w ((b, o) :: L)) : H b = Option.none := (h.apart (b, o) (mem_cons_self ..)).1
theorem St.freeze (h : St H w ((b, o) :: L)) (hz : nz o := by first | exact U | trivial) : St (H.add b o) w L := by
 have hnd := nodup_cons.1 h.nodup
 refine ⟨fun c p hc => ?_, fun c I hc => ?_, h.rest, fun c p hc hl => ?_, h.tl.own, hnd.2, fun x hx => ?_⟩
 replace hc : (if c = b then some o else H c) = some p := hc
 split at hc
 rename_i e; subst e; cases hc; exact h.hd
 exact h.froz c p hc
 obtain ⟨h1, h2, p, h3, h4⟩ := h.memo c I hc
 refine ⟨?_, h2, p, h3, h2.1 _ _ _ (Yx8.add h.none) h4.1, h4.2⟩
 show (if c = b then some o else H c) = Option.none
 rw [if_neg]
 exact h1
 rintro rfl
 have := (h.apart (c, o) (mem_cons_self ..)).2
 simp only at this
 replace hc : H.memo c = some I := hc
 rw [this] at hc; cases hc
 replace hc : (if c = b then some o else H c) = some p := hc
 split at hc
 cases hc; exact hz
 exact h.nofz c p hc hl
 refine ⟨?_, (h.tl.apart x hx).2⟩
 show (if x.1 = b then some o else H x.1) = Option.none
 split
 rename_i e; exact absurd (mem_map.2 ⟨x, hx, e⟩) hnd.1
 exact (h.tl.apart x hx).1
theorem St.noneM (h : St H w ((b, o) :: L)) : H.memo b = Option.none := (h.apart (b, o) (mem_cons_self ..)).2
end
structure TyI (P : Program) (T : TypeId) (agg : Bool) (size : Nat) : Prop where
 isAgg : ∀ w, (Go.isAgg T).run P w = .ok agg w
 sizeOf : ∀ w, (Go.sizeOf T).run P w = .ok size w
section
variable {P : Program} {n : Nat} {ops : Array Oper} {J : Fr → World → Prop} {r : List Oper} {f : Fr} {w : World} {d : Nat} {T : TypeId} {pos : String} {af : Array Edge}
theorem Z3 {x : Operand} (v : Value) (hx : ev f x = v) (hn : Nat.blt d n = true) (k : X7 P n ops J r (upd f d v) w) :
 X7 P n ops J (⟨some d, .move x, T, pos, af, none⟩ :: r) f w :=
 U2 U U hn (by rw [← hx]; rfl) k
theorem Z5 {x : Operand} (v : Value) (hx : ev f x = v) (hn : Nat.blt d n = true) (k : X7 P n ops J r (upd f d v) w) :
 X7 P n ops J (⟨some d, .assign x, T, pos, af, none⟩ :: r) f w :=
 U2 U U hn (by rw [← hx]; rfl) k
theorem W5 {c x y : Operand} {t : Bool} (v : Value) (hc : ev f c = .bool t) (hv : (if t = true then ev f x else ev f y) = v) (hn : Nat.blt d n = true) (k : X7 P n ops J r (upd f d v) w) :
 X7 P n ops J (⟨some d, .pick c x y, T, pos, af, none⟩ :: r) f w :=
 U2 rfl rfl hn (by rw [← hv]; cases t <;> simp [execOp, hc, asBool]) k
theorem W4 {X Y : TypeId} {x y : Operand} {k : IntKind} {a b : Int} (v : Int) (hx : ev f x = .int k a) (hy : ev f y = .int k b) (hv : k.wrap (a + b) = v) (hn : Nat.blt d n = true)
 (K : X7 P n ops J r (upd f d (.int k v)) w) : X7 P n ops J (⟨some d, .binOp .add X x y Y, T, pos, af, none⟩ :: r) f w :=
 U2 U U hn (by rw [← hv]; simp [execOp, hx, hy, eqGuard, binOp, Op.intArith]) K
theorem Zg8 {X Y : TypeId} {x y : Operand} {k : IntKind} {a b : Int} (v : Int) (hx : ev f x = .int k a) (hy : ev f y = .int k b) (hv : k.wrap (a - b) = v) (hn : Nat.blt d n = true)
 (K : X7 P n ops J r (upd f d (.int k v)) w) : X7 P n ops J (⟨some d, .binOp .sub X x y Y, T, pos, af, none⟩ :: r) f w :=
 U2 U U hn (by rw [← hv]; simp [execOp, hx, hy, eqGuard, binOp, Op.intArith]) K
theorem Zi4 {X Y : TypeId} {x y : Operand} {k : IntKind} {a b : Int} (v : Int) (hx : ev f x = .int k a) (hy : ev f y = .int k b) (hv : k.wrap (a * b) = v) (hn : Nat.blt d n = true)
 (K : X7 P n ops J r (upd f d (.int k v)) w) : X7 P n ops J (⟨some d, .binOp .mul X x y Y, T, pos, af, none⟩ :: r) f w :=
 U2 U U hn (by rw [← hv]; simp [execOp, hx, hy, eqGuard, binOp, Op.intArith]) K
theorem Zd4 {X Y : TypeId} {x y : Operand} {k : IntKind} {a b : Int} (v : Int) (hx : ev f x = .int k a) (hy : ev f y = .int k b) (h0 : b ≠ 0) (hv : a.tmod b = v) (hn : Nat.blt d n = true)
 (K : X7 P n ops J r (upd f d (.int k v)) w) : X7 P n ops J (⟨some d, .binOp .rem X x y Y, T, pos, af, none⟩ :: r) f w :=
 U2 U U hn (by rw [← hv]; simp [execOp, hx, hy, eqGuard, binOp, Op.intDiv, h0]) K
theorem Xt1 {X Y : TypeId} {x y : Operand} {k : IntKind} {a b : Int} (v : Int) (hx : ev f x = .int k a) (hy : ev f y = .int k b) (h0 : b ≠ 0) (hv : k.wrap (a.tdiv b) = v) (hn : Nat.blt d n = true)
 (K : X7 P n ops J r (upd f d (.int k v)) w) : X7 P n ops J (⟨some d, .binOp .quo X x y Y, T, pos, af, none⟩ :: r) f w :=
 U2 U U hn (by rw [← hv]; simp [execOp, hx, hy, eqGuard, binOp, Op.intDiv, h0]) K
theorem V4 {X Y : TypeId} {x y : Operand} {k : IntKind} {a b : Int} (hx : ev f x = .int k a) (hy : ev f y = .int k b) (hn : Nat.blt d n = true)
 (K : X7 P n ops J r (upd f d (.bool (decide (a < b)))) w) : X7 P n ops J (⟨some d, .binOp .lss X x y Y, T, pos, af, none⟩ :: r) f w :=
 U2 U U hn (by simp [execOp, hx, hy, eqGuard, binOp, Op.intCmp]) K
theorem Yj8 {X Y : TypeId} {x y : Operand} {k : IntKind} {a b : Int} (hx : ev f x = .int k a) (hy : ev f y = .int k b) (hn : Nat.blt d n = true)
 (K : X7 P n ops J r (upd f d (.bool (decide (a ≤ b)))) w) : X7 P n ops J (⟨some d, .binOp .leq X x y Y, T, pos, af, none⟩ :: r) f w :=
 U2 U U hn (by simp [execOp, hx, hy, eqGuard, binOp, Op.intCmp]) K
theorem A0 {X Y : TypeId} {x y : Operand} {k : IntKind} {a b : Int} (hx : ev f x = .int k a) (hy : ev f y = .int k b) (hn : Nat.blt d n = true)
 (K : X7 P n ops J r (upd f d (.bool (decide (b < a)))) w) : X7 P n ops J (⟨some d, .binOp .gtr X x y Y, T, pos, af, none⟩ :: r) f w :=
 U2 U U hn (by simp [execOp, hx, hy, eqGuard, binOp, Op.intCmp]) K
theorem Ya4 {X Y : TypeId} {x y : Operand} {k : IntKind} {a b : Int} (hx : ev f x = .int k a) (hy : ev f y = .int k b) (hn : Nat.blt d n = true)
 (K : X7 P n ops J r (upd f d (.bool (decide (b ≤ a)))) w) : X7 P n ops J (⟨some d, .binOp .geq X x y Y, T, pos, af, none⟩ :: r) f w :=
 U2 U U hn (by simp [execOp, hx, hy, eqGuard, binOp, Op.intCmp]) K
theorem Zb2 {X Y : TypeId} {x y : Operand} {k : IntKind} {a b : Int} (hx : ev f x = .int k a) (hy : ev f y = .int k b) (hn : Nat.blt d n = true)
 (K : X7 P n ops J r (upd f d (.bool (decide (a = b)))) w) : X7 P n ops J (⟨some d, .binOp .eql X x y Y, T, pos, af, none⟩ :: r) f w :=
 U2 U U hn (by simp [execOp, hx, hy, eqGuard, binOp, Op.intCmp]; rfl) K
theorem L1 {X Y : TypeId} {x y : Operand} {k : IntKind} {a b : Int} (hx : ev f x = .int k a) (hy : ev f y = .int k b) (hn : Nat.blt d n = true)
 (K : X7 P n ops J r (upd f d (.bool (!decide (a = b)))) w) : X7 P n ops J (⟨some d, .binOp .neq X x y Y, T, pos, af, none⟩ :: r) f w :=
 U2 U U hn (by simp [execOp, hx, hy, eqGuard, binOp, Op.intCmp]; rfl) K
theorem P5 {X : TypeId} {x : Operand} {b : Bool} (hx : ev f x = .bool b) (hn : Nat.blt d n = true)
 (K : X7 P n ops J r (upd f d (.bool (!b))) w) : X7 P n ops J (⟨some d, .unOp .not X x, T, pos, af, none⟩ :: r) f w :=
 U2 U U hn (by simp [execOp, hx, Op.unary]) K
theorem Xt0 {X : TypeId} {x : Operand} {k : IntKind} {a : Int} (v : Int) (hx : ev f x = .int k a) (hv : k.wrap (0 - a) = v) (hn : Nat.blt d n = true)
 (K : X7 P n ops J r (upd f d (.int k v)) w) : X7 P n ops J (⟨some d, .unOp .neg X x, T, pos, af, none⟩ :: r) f w :=
 U2 U U hn (by rw [← hv]; simp [execOp, hx, Op.unary, Op.intArith]) K
theorem V1 {x : Operand} {i : Nat} {vs : Array Value} (v : Value) (hx : ev f x = .tuple vs) (hv : vs[i]? = some v) (hn : Nat.blt d n = true)
 (K : X7 P n ops J r (upd f d v) w) : X7 P n ops J (⟨some d, .extract x i, T, pos, af, none⟩ :: r) f w :=
 U2 U U hn (by simp [execOp, hx, Instr.extract, hv]) K
end
/-! memory -/
theorem Q2 (b off i : Nat) : (⟨b, off, none⟩ : Addr).add i = ⟨b, off + i, none⟩ := by
 unfold Addr.add; split
 rename_i h; subst h; rfl
 rfl
def World.withBlk (w : World) (b : Nat) (o : Obj) : World := { w with heap := w.heap.setIfInBounds b o }
theorem Xj6 {w : World} {b : Nat} {cs : Array Value} {E : TypeId} {fz : Nat × Nat} (h : w.heap[b]? = some (.cells cs E fz)) (i : Nat) (v : Value) :
 w.setCell ⟨b, i, none⟩ v = World.withBlk w b (.cells (cs.setIfInBounds i v) E fz) := by
 unfold World.setCell World.withBlk
 congr 1
 apply Array.ext_getElem?
 intro j
 rw [Array.getElem?_modify, Array.getElem?_setIfInBounds]
 by_cases e : b = j
 subst e
 have := Zi0 h
 rw [h]
 simp [this]
 simp [e]
theorem Wd0 {w : World} {b : Nat} {o o' : Obj} (h : w.heap[b]? = some o) : (World.withBlk w b o').heap[b]? = some o' := by
 have := Zi0 h
 simp [World.withBlk, this]
theorem Xs5 (w : World) (b : Nat) (o o' : Obj) : World.withBlk (World.withBlk w b o) b o' = World.withBlk w b o' := by
 simp [World.withBlk]
theorem Yg2 {w : World} {b : Nat} {cs : Array Value} {E : TypeId} {fz : Nat × Nat} (h : w.heap[b]? = some (.cells cs E fz)) (i : Nat) :
 w.cell? ⟨b, i, none⟩ = cs[i]? := by
 simp [World.cell?, h]
def B6 (cs : Array Value) (off : Nat) : List Value → Array Value
 | [] => cs
 | v :: vs => B6 (cs.setIfInBounds off v) (off + 1) vs
theorem Yb9 : ∀ (vs : List Value) (cs : Array Value) (off : Nat), (B6 cs off vs).size = cs.size
 | [], _, _ => rfl
 | v :: vs, cs, off => by simp [B6, Yb9 vs]
theorem Zz8 : ∀ (vs : List Value) (cs : Array Value) (off i : Nat), off + vs.length ≤ cs.size →
 (B6 cs off vs)[i]? = if off ≤ i ∧ i < off + vs.length then vs[i - off]? else cs[i]?
 | [], cs, off, i, h => by simp [B6]; omega
 | v :: vs, cs, off, i, h => by
  simp only [length_cons] at h
  rw [B6, Zz8 vs _ (off + 1) i (by simp; omega)]
  simp only [length_cons]
  by_cases h1 : i = off
  subst h1
  have hi : i < cs.size := by omega
  rw [if_neg (by omega), if_pos (by omega)]
  simp [hi]
  by_cases h2 : off ≤ i ∧ i < off + (vs.length + 1)
  rw [if_pos (by omega), if_pos h2]
  have : i - off = (i - (off + 1)) + 1 := by omega
  rw [this]; simp
  rw [if_neg (by omega), if_neg h2, Array.getElem?_setIfInBounds_ne (by omega)]
theorem Wi8 {vs : List Value} {cs : Array Value} (h : vs.length = cs.size) : B6 cs 0 vs = vs.toArray := by
 apply Array.ext_getElem?
 intro i
 rw [Zz8 vs cs 0 i (by omega)]
 split
 simp
 rw [Array.getElem?_eq_none (by omega)]; simp; omega
theorem Yg7 {P : Program} {b off : Nat} {E : TypeId} : ∀ (vs : List Value) (cs : Array Value) (w : World) (i : Nat), w.heap[b]? = some (.cells cs E (0, 0)) → (∀ v, v ∈ vs → v.oneCell' = true) →
 off + i + vs.length ≤ cs.size → (storeCells ⟨b, off, none⟩ vs i).run P w = .ok () (if vs = [] then w else World.withBlk w b (.cells (B6 cs (off + i) vs) E (0, 0)))
 | [], cs, w, i, h, _, _ => by simp [storeCells]
 | v :: vs, cs, w, i, h, hv, hl => by
  simp only [length_cons] at hl
  have hlt : off + i < cs.size := by omega
  unfold storeCells
  rw [Sem.run_bind, Q2, run_store P w _ _ _ (hv v (mem_cons_self ..)), Yg2 h]
  have hc : cs[off + i]? = some cs[off + i] := by simp [hlt]
  rw [hc]
  have hfz : w.frozen? ⟨b, off + i, none⟩ = false := by simp [World.frozen?, h]
  rw [hfz]
  simp only [Bool.false_eq_true, if_false, Result.andThen_ok]
  rw [Xj6 h]
  have ih := Yg7 (P := P) (b := b) (off := off) (E := E) vs (cs.setIfInBounds (off + i) v) (World.withBlk w b (.cells (cs.setIfInBounds (off + i) v) E (0, 0))) (i + 1) (Wd0 h) (fun u hu => hv u (mem_cons_of_mem _ hu)) (by simp; omega)
  rw [ih]
  rw [if_neg (by simp : ¬ (v :: vs = []))]
  by_cases e : vs = []
  subst e; simp [B6]
  rw [if_neg e, Xs5]; rfl
theorem St.withBlk {H : FH} {w : World} {L : OL} {b : Nat} {o : Obj} (h : St H w ((b, o) :: L)) (o' : Obj) : St H (World.withBlk w b o') ((b, o') :: L) := h.put o'
abbrev vP (b : Nat) : Value := .pointer (some ⟨b, 0, none⟩)
abbrev vI (x : Int) : Value := .int .i64 x
theorem St.get {H : FH} {w : World} {L : OL} {b : Nat} {o : Obj} (h : St H w L) (hm : (b, o) ∈ L) : w.heap[b]? = some o := h.own _ hm
theorem mR {α : Type} {a : α} {A B : List α} (h : a ∈ B) : a ∈ A ++ B := mem_append_right _ h
theorem mL {α : Type} {a : α} {B : List α} : a ∈ [a] ++ B := mem_cons_self ..
theorem Xq8 {v : Value} (h : v.oneCell' = true) : v.cells = #[v] := by cases v <;> first | rfl | simp [Value.oneCell'] at h
section
variable {P : Program} {n : Nat} {ops : Array Oper} {J : Fr → World → Prop} {r : List Oper} {f : Fr} {w : World} {d : Nat} {T : TypeId} {pos : String} {af : Array Edge} {H : FH} {L : OL}
theorem T8 {E : TypeId} {x : Operand} {v : Value} (cs : Array Value) (hx : ev f x = v) (hc : v.cells = cs) (hS : St H w L) (hn : Nat.blt d n = true)
 (K : ∀ b w', St H w' ([(b, .cells cs E)] ++ L) → X7 P n ops J r (upd f d (.pointer (some ⟨b, 0, none⟩))) w') :
 X7 P n ops J (⟨some d, .box E x, T, pos, af, none⟩ :: r) f w := by
 subst hc
 exact U2 (w' := w.alloc (.cells v.cells E)) U U hn (by simp [execOp, hx, Instr.box, newVar, newRow]) (K _ _ (hS.alloc _))
theorem U5 {E : TypeId} {z : Value} (cs : Array Value) (hz : ∀ w, (zeroValue E).run P w = .ok z w) (hc : z.cells = cs) (hS : St H w L) (hn : Nat.blt d n = true)
 (K : ∀ b w', St H w' ([(b, .cells cs E)] ++ L) → X7 P n ops J r (upd f d (.pointer (some ⟨b, 0, none⟩))) w') :
 X7 P n ops J (⟨some d, .alloc E, T, pos, af, none⟩ :: r) f w := by
 subst hc
 exact U2 (w' := w.alloc (.cells z.cells E)) U U hn (by simp [execOp, Instr.alloc, newVar, newRow, hz]) (K _ _ (hS.alloc _))
theorem Xc9 {s b off : Nat} {E : TypeId} {cs : Array Value} {fz : Nat × Nat} (vs : List Value) (t : TyI P T true s)
 (hb : w.heap[b]? = some (.cells cs E fz)) (hl : vs.length = s) (hv : ∀ j, j < s → cs[off + j]? = vs[j]?) :
 (loadVar T ⟨b, off, none⟩).run P w = .ok (.agg vs.toArray) w := by
 subst hl
 have h1 : (loadCells ⟨b, off, none⟩ vs.length).run P w = .ok vs.toArray w :=
  run_loadCells_list w _ vs (fun j v hj => by
   rw [Q2, Yg2 hb]
   have hlt : j < vs.length := by
    rcases Nat.lt_or_ge j vs.length with h | h
    exact h
    rw [getElem?_eq_none h] at hj; cases hj
   rw [hv j hlt]; exact hj)
 simp [loadVar, t.isAgg, t.sizeOf, h1]
theorem U0 {s b off : Nat} {E : TypeId} {cs : Array Value} {fz : Nat × Nat} {x : Operand} (vs : List Value) (t : TyI P T true s) (hx : ev f x = .pointer (some ⟨b, off, none⟩))
 (hb : w.heap[b]? = some (.cells cs E fz)) (hl : vs.length = s) (hv : ∀ j, j < s → cs[off + j]? = vs[j]?) (hn : Nat.blt d n = true) {T' : TypeId}
 (K : X7 P n ops J r (upd f d (.agg vs.toArray)) w) : X7 P n ops J (⟨some d, .load T x, T', pos, af, none⟩ :: r) f w :=
 U2 U U hn (by simp [execOp, hx, Instr.loadAt, Instr.sureAddr, Xc9 vs t hb hl hv]) K
theorem X5 {s b : Nat} {E : TypeId} {cs : Array Value} {fz : Nat × Nat} {x : Operand} (t : TyI P T true s) (hx : ev f x = .pointer (some ⟨b, 0, none⟩))
 (hb : w.heap[b]? = some (.cells cs E fz)) (hl : cs.size = s) (hn : Nat.blt d n = true) {T' : TypeId}
 (K : X7 P n ops J r (upd f d (.agg cs)) w) : X7 P n ops J (⟨some d, .load T x, T', pos, af, none⟩ :: r) f w :=
 U0 cs.toList t hx hb (by simpa using hl) (fun j _ => by simp) hn (by simpa using K)
theorem Wb6 {s b off : Nat} {E : TypeId} {cs : Array Value} {fz : Nat × Nat} (v : Value) (t : TyI P T false s)
 (hb : w.heap[b]? = some (.cells cs E fz)) (hv : cs[off]? = some v) : (loadVar T ⟨b, off, none⟩).run P w = .ok v w := by
 have h := Yg2 hb off
 rw [hv] at h
 simp [loadVar, t.isAgg, h]
theorem Y1 {s b off : Nat} {E : TypeId} {cs : Array Value} {fz : Nat × Nat} {x : Operand} (v : Value) (t : TyI P T false s) (hx : ev f x = .pointer (some ⟨b, off, none⟩))
 (hb : w.heap[b]? = some (.cells cs E fz)) (hv : cs[off]? = some v) (hn : Nat.blt d n = true) {T' : TypeId}
 (K : X7 P n ops J r (upd f d v) w) : X7 P n ops J (⟨some d, .load T x, T', pos, af, none⟩ :: r) f w :=
 U2 U U hn (by simp [execOp, hx, Instr.loadAt, Instr.sureAddr, Wb6 v t hb hv]) K
theorem Xw4 {s b off : Nat} {E : TypeId} {cs : Array Value} {v : Value} {a : Bool} (t : TyI P T a s)
 (hb : w.heap[b]? = some (.cells cs E (0, 0))) (hs : v.cells.size = s) (ho : ∀ u, u ∈ v.cells.toList → u.oneCell' = true) (hl : off + s ≤ cs.size) :
 (storeVar T ⟨b, off, none⟩ v).run P w = .ok () (if v.cells.toList = [] then w else World.withBlk w b (.cells (B6 cs off v.cells.toList) E (0, 0))) := by
 have h := Yg7 (P := P) (b := b) (off := off) (E := E) v.cells.toList cs w 0 hb ho (by simp; omega)
 simp only [Nat.add_zero] at h
 simp [storeVar, t.sizeOf, hs]
 simpa using h
theorem J7 {s b off : Nat} {E : TypeId} {cs cs' : Array Value} {x y : Operand} {v : Value} {a : Bool} (t : TyI P T a s) (hx : ev f x = .pointer (some ⟨b, off, none⟩)) (hy : ev f y = v)
 (hS : St H w ([(b, .cells cs E)] ++ L)) (hs : v.cells.size = s) (ho : ∀ u, u ∈ v.cells.toList → u.oneCell' = true) (hl : off + s ≤ cs.size) (hcs : B6 cs off v.cells.toList = cs') {T' : TypeId}
 (K : ∀ w', St H w' ([(b, .cells cs' E)] ++ L) → X7 P n ops J r f w') : X7 P n ops J (⟨none, .store T x y, T', pos, af, none⟩ :: r) f w := by
 have h := Xw4 (P := P) t (St.hd (L := L) hS) hs ho hl
 rw [hcs] at h
 by_cases e : v.cells.toList = []
 rw [if_pos e] at h
 rw [e] at hcs
 refine Ym2 U U (w' := w) (by simp [execOp, hx, hy, Instr.storeAt, Instr.sureAddr, h]) (K _ ?_)
 simp only [B6] at hcs
 exact hcs ▸ hS
 rw [if_neg e] at h
 exact Ym2 U U (by simp [execOp, hx, hy, Instr.storeAt, Instr.sureAddr, h]) (K _ (St.withBlk (L := L) hS _))
theorem W1 {s b : Nat} {E : TypeId} {cs vs : Array Value} {x y : Operand} {a : Bool} {v : Value} (t : TyI P T a s) (hx : ev f x = .pointer (some ⟨b, 0, none⟩)) (hy : ev f y = v) (hvs : v.cells = vs)
 (hS : St H w ([(b, .cells cs E)] ++ L)) (hs : vs.size = s) (ho : ∀ u, u ∈ vs.toList → u.oneCell' = true) (hl : cs.size = s) {T' : TypeId}
 (K : ∀ w', St H w' ([(b, .cells vs E)] ++ L) → X7 P n ops J r f w') : X7 P n ops J (⟨none, .store T x y, T', pos, af, none⟩ :: r) f w := by
 subst hvs
 exact J7 t hx hy hS hs ho (by omega) (by rw [Wi8 (by simp; omega)]) (fun w' h => K w' (by simpa using h))
structure Zn0 (P : Program) (T : TypeId) (i off : Nat) : Prop where
 at_ : ∀ b o w, (Instr.fieldAt T (.pointer (some ⟨b, o, none⟩)) i).run P w = .ok (.pointer (some ⟨b, o + off, none⟩)) w
theorem Y2 {X : TypeId} {x : Operand} {b o i off : Nat} (t : Zn0 P X i off) (hx : ev f x = .pointer (some ⟨b, o, none⟩)) (hn : Nat.blt d n = true)
 (K : X7 P n ops J r (upd f d (.pointer (some ⟨b, o + off, none⟩))) w) : X7 P n ops J (⟨some d, .fieldAddr X x i, T, pos, af, none⟩ :: r) f w :=
 U2 U U hn (by simp [execOp, hx, t.at_]) K
structure SlI (P : Program) (T E : TypeId) (s : Nat) : Prop where
 under : ∀ w, (underlying T).run P w = .ok (.slice E) w
 sizeOf : ∀ w, (Go.sizeOf E).run P w = .ok s w
structure ArI (P : Program) (T E : TypeId) (len s : Nat) : Prop where
 under : ∀ w, (underlying T).run P w = .ok (.array len E) w
 sizeOf : ∀ w, (Go.sizeOf E).run P w = .ok s w
 isAgg : ∀ w, (Go.isAgg E).run P w = .ok false w
theorem Zh9 {X E : TypeId} {x y : Operand} {b o m c s : Nat} {i : Int} {k : IntKind} (t : SlI P X E s) (hx : ev f x = .slice (some ⟨b, o, none⟩) m c) (hy : ev f y = .int k i) (h0 : 0 ≤ i) (hm : i < m) (hn : Nat.blt d n = true)
 (K : X7 P n ops J r (upd f d (.pointer (some ⟨b, o + i.toNat * s, none⟩))) w) : X7 P n ops J (⟨some d, .indexAddr X x y, T, pos, af, none⟩ :: r) f w :=
 U2 U U hn (by simp [execOp, hx, hy, Instr.indexAt, asIntOf, t.under, t.sizeOf, h0, hm, Q2]) K
theorem U3 {X E : TypeId} {x y : Operand} {b o len s : Nat} {i : Int} {k : IntKind} (t : ArI P X E len s) (hx : ev f x = .pointer (some ⟨b, o, none⟩)) (hy : ev f y = .int k i) (h0 : 0 ≤ i) (hm : i < len) (hn : Nat.blt d n = true)
 (K : X7 P n ops J r (upd f d (.pointer (some ⟨b, o + i.toNat * s, none⟩))) w) : X7 P n ops J (⟨some d, .indexAddr X x y, T, pos, af, none⟩ :: r) f w :=
 U2 U U hn (by simp [execOp, hx, hy, Instr.indexAt, Instr.sureAddr, asIntOf, t.under, t.sizeOf, h0, hm, Q2]) K
theorem Yo6 {X E : TypeId} {x y : Operand} {cs : Array Value} {len : Nat} {i : Int} {k : IntKind} (v : Value) (t : ArI P X E len 1) (hx : ev f x = .agg cs) (hy : ev f y = .int k i) (h0 : 0 ≤ i) (hm : i < len) (hv : cs[i.toNat]? = some v) (hn : Nat.blt d n = true)
 (K : X7 P n ops J r (upd f d v) w) : X7 P n ops J (⟨some d, .index X x y, T, pos, af, none⟩ :: r) f w :=
 U2 U U hn (by simp [execOp, hx, hy, Instr.index, asIntOf, t.under, t.sizeOf, part, t.isAgg, h0, hm, hv]) K
theorem Zq3 {X E : TypeId} {x : Operand} {a : Option Addr} {m c s : Nat} (t : SlI P X E s) (hx : ev f x = .slice a m c) (hn : Nat.blt d n = true)
 (K : X7 P n ops J r (upd f d (.int .i64 m)) w) : X7 P n ops J (⟨some d, .call ⟨.builtin .len, #[x], #[X]⟩, T, pos, af, none⟩ :: r) f w :=
 U2 U U hn (by simp [execOp, resolve, invoke, builtin, Builtin.len_, hx, t.under, goInt]) K
theorem U9 {fid : FuncId} {xs ats : Array _} {vs : Array Value} (hcall : ∀ args w, (callFunc fid args).run P w = .ok (.enter fid args) w) (hx : xs.map (ev f) = vs) (hn : Nat.blt d n = true) {C : Ending → World → Prop} (hc : Calls P fid vs w C)
 (K : ∀ e w', C e w' → ∃ v, e = .returned v ∧ X7 P n ops J r (upd f d v) w') : X7 P n ops J (⟨some d, .call ⟨.value (.func fid), xs, ats⟩, T, pos, af, none⟩ :: r) f w :=
 Xe3 U U hn (by simp [execOp, resolve, ev, Deferred.ofValue, invoke, hx, hcall]) hc K
end
structure Ty (α : Type) where
 size : Nat
 rel : FH → List Value → α → Prop
 len : ∀ {H : FH} {cs : List Value} {x : α}, rel H cs x → cs.length = size
 mono : ∀ {H H' : FH} {cs : List Value} {x : α}, Sub H H' → rel H cs x → rel H' cs x
 one : ∀ {H : FH} {cs : List Value} {x : α}, rel H cs x → ∀ u, u ∈ cs → u.oneCell' = true
def Wp8 {α : Type} (enc : α → List Value) (s : Nat) (hl : ∀ x, (enc x).length = s) (h1 : ∀ x u, u ∈ enc x → u.oneCell' = true) : Ty α :=
 ⟨s, fun _ cs x => cs = enc x, fun h => by rw [h]; exact hl _, fun _ h => h, fun h u hu => h1 _ u (h ▸ hu)⟩
def Y4 (k : IntKind) : Ty Int := Wp8 (fun x => [.int k x]) 1 (fun _ => rfl) (fun x u hu => by simp at hu; subst hu; rfl)
abbrev A8 := Fin 8 → Int
def Z7 (k : IntKind) (m : A8) : List Value := [.int k (m 0), .int k (m 1), .int k (m 2), .int k (m 3), .int k (m 4), .int k (m 5), .int k (m 6), .int k (m 7)]
theorem R7 (k : IntKind) (m : A8) : ∀ u, u ∈ Z7 k m → u.oneCell' = true := by
 intro u hu
 simp only [Z7, mem_cons, not_mem_nil, or_false] at hu
 rcases hu with rfl | rfl | rfl | rfl | rfl | rfl | rfl | rfl <;> rfl
def Q5 (k : IntKind) : Ty A8 := Wp8 (Z7 k) 8 (fun _ => rfl) (R7 k)
abbrev Zb0 := A8 × Int
def rd {α : Type} [Inhabited α] (xs : List α) (i : Int) : α := xs.getD i.toNat default
instance : Inhabited A8 := ⟨fun _ => 0⟩
def Y3 {α : Type} (τ : Ty α) (H : FH) (v : Value) (xs : List α) : Prop :=
 ∃ a c, (v = .slice a xs.length c ∧ xs.length ≤ 9223372036854775807 ∧ xs.length ≤ c) ∧ (xs = [] ∨ ∃ (b o : Nat) (cs : Array Value) (E : TypeId × Nat × Nat), a = some ⟨b, o, none⟩ ∧ H b = some (.cells cs E.1 E.2) ∧
  ∀ i x, xs[i]? = some x → ∃ ecs, τ.rel H ecs x ∧ ∀ j, j < τ.size → cs[o + i * τ.size + j]? = ecs[j]?)
theorem Y3.bound {α : Type} {τ : Ty α} {H : FH} {v : Value} {xs : List α} (h : Y3 τ H v xs) : xs.length ≤ 9223372036854775807 := by
 obtain ⟨a, c, hv, _⟩ := h; exact hv.2.1
theorem Y3.room {α : Type} {τ : Ty α} {H : FH} {v : Value} {xs : List α} (h : Y3 τ H v xs) : ∃ a c, v = .slice a xs.length c ∧ xs.length ≤ c := by
 obtain ⟨a, c, hv, _⟩ := h; exact ⟨a, c, hv.1, hv.2.2⟩
theorem Y3.mono {α : Type} {τ : Ty α} {H H' : FH} {v : Value} {xs : List α} (hs : Sub H H') (h : Y3 τ H v xs) : Y3 τ H' v xs := by
 obtain ⟨a, c, hv, h⟩ := h
 refine ⟨a, c, hv, ?_⟩
 rcases h with h | ⟨b, o, cs, E, ha, hb, hc⟩
 exact .inl h
 exact .inr ⟨b, o, cs, E, ha, hs.1 _ _ hb, fun i x hx => let ⟨ecs, hr, hj⟩ := hc i x hx; ⟨ecs, τ.mono hs hr, hj⟩⟩
def X3 {α : Type} (τ : Ty α) : Ty (List α) :=
 ⟨1, fun H cs xs => ∃ v, cs = [v] ∧ Y3 τ H v xs, fun ⟨_, h, _⟩ => by rw [h]; rfl, fun hs ⟨v, h, hr⟩ => ⟨v, h, hr.mono hs⟩,
  fun ⟨v, h, a, c, ⟨hv, _⟩, _⟩ u hu => by rw [h] at hu; simp at hu; subst hu; subst hv; rfl⟩
def Yd6 {α β : Type} (τ : Ty α) (σ : Ty β) : Ty (α × β) :=
 ⟨τ.size + σ.size, fun H cs x => ∃ c1 c2, cs = c1 ++ c2 ∧ τ.rel H c1 x.1 ∧ σ.rel H c2 x.2,
  fun ⟨c1, c2, h, h1, h2⟩ => by rw [h, length_append, τ.len h1, σ.len h2], fun hs ⟨c1, c2, h, h1, h2⟩ => ⟨c1, c2, h, τ.mono hs h1, σ.mono hs h2⟩,
  fun ⟨c1, c2, h, h1, h2⟩ u hu => by rw [h] at hu; exact (mem_append.1 hu).elim (τ.one h1 u) (σ.one h2 u)⟩
abbrev yT : Ty Zb0 := Yd6 (Q5 .u8) (Y4 .i64)
def Ye4 : Ty Zb0 := Yd6 (Q5 .u8) (Y4 .i64)
abbrev Zk1 := List Zb0
abbrev F6 := List Int × List Zk1
def Yi2 : Ty Zk1 := X3 Ye4
section
variable {P : Program} {n : Nat} {ops : Array Oper} {J : Fr → World → Prop} {r : List Oper} {f : Fr} {w : World} {d : Nat} {T : TypeId} {pos : String} {af : Array Edge} {H : FH} {L : OL}
variable {α : Type} {τ : Ty α}
theorem X9 {X E : TypeId} {x : Operand} {v : Value} {s : Nat} {xs : List α} (t : SlI P X E s) (hx : ev f x = v) (h : Y3 τ H v xs) (hn : Nat.blt d n = true)
 (K : X7 P n ops J r (upd f d (.int .i64 xs.length)) w) : X7 P n ops J (⟨some d, .call ⟨.builtin .len, #[x], #[X]⟩, T, pos, af, none⟩ :: r) f w := by
 obtain ⟨a, c, ⟨hv, _⟩, _⟩ := h
 exact Zq3 t (hx.trans hv) hn K
theorem Xm1 {α : Type} [Inhabited α] {xs : List α} {i : Int} (h0 : 0 ≤ i) (hm : i < xs.length) : xs[i.toNat]? = some (rd xs i) := by
 have : i.toNat < xs.length := by omega
 simp [rd, getD, this]
end
theorem Zf9 {cs : Array Value} {o s : Nat} (A B C : List Value) (h : ∀ j, j < s → cs[o + j]? = (A ++ (B ++ C))[j]?) (hs : A.length + B.length ≤ s) :
 ∀ j, j < B.length → cs[o + A.length + j]? = B[j]? := by
 intro j hj
 have := h (A.length + j) (by omega)
 rw [← Nat.add_assoc] at this
 rw [this, getElem?_append_right (by omega), Nat.add_sub_cancel_left, getElem?_append_left hj]
def Y5 (m : A8) (i : Int) : Int := if h : i.toNat < 8 then m ⟨i.toNat, h⟩ else 0
theorem Ym6 {k : IntKind} {m : A8} {i : Int} (h0 : 0 ≤ i) (h8 : i < 8) : (Z7 k m).toArray[i.toNat]? = some (.int k (Y5 m i)) := by
 obtain ⟨j, rfl⟩ := Int.eq_ofNat_of_zero_le h0
 have : j < 8 := by omega
 match j, this with
 | 0, _ | 1, _ | 2, _ | 3, _ | 4, _ | 5, _ | 6, _ | 7, _ => rfl
inductive Ex (ρ σ : Type) where
 | ret (r : ρ)
 | go (s : σ)
def T4 (R : Value → FH → Prop) (H : FH) (L : OL) : Ending → World → Prop := fun e w' => ∃ v H', e = .returned v ∧ Sub H H' ∧ St H' w' L ∧ R v H'
structure MP where
 p : FH → Value → Prop
 mono : ∀ {H H' : FH} {v : Value}, Sub H H' → p H v → p H' v
 res : Value → OL
def MP.eq (v : Value) : MP := ⟨fun _ u => u = v, fun _ h => h, fun _ => []⟩
def MP.any : MP := ⟨fun _ _ => True, fun _ h => h, fun _ => []⟩
def MP.sl {α : Type} (τ : Ty α) (xs : List α) : MP := ⟨fun H v => Y3 τ H v xs, fun hs h => h.mono hs, fun _ => []⟩
def Zg0 (o : Obj) : Value → OL
 | .pointer (some p) => [(p.block, o)]
 | _ => []
def Wm5 (o : Obj) : Value → OL
 | .slice (some p) _ _ => [(p.block, o)]
 | _ => []
structure Co where
 mk_ : Nat
 d : Nat
 k : Nat
 i : Nat
 x : Nat
 r : Value → Value → OL
 q : FH → Value → Prop
 qm : ∀ {H H' : FH} {v : Value}, Sub H H' → q H v → q H' v
def Co.st (mk_ d k i x : Nat) (o : Value → Obj) : Co := ⟨mk_, d, k, i, x, fun vx vd => Zg0 (o vx) vd, fun _ _ => True, fun _ _ => trivial⟩
def Co.fz (mk_ d k : Nat) (p : MP) : Co := ⟨mk_, d, k, mk_, d, fun _ _ => [], p.p, p.mono⟩
def Zw6 (T : TypeId) : Value → Obj
 | .agg cs => .cells cs T
 | v => .cells #[v] T
abbrev Con := List Co
def Con.of (con : Con) (j : Nat) : Option Co := con.find? (fun c => Nat.beq c.mk_ j)
def Con.by_ (con : Con) (k : Nat) : Option Co := con.find? (fun c => Nat.beq c.k k)
def Xj9 : Value → OL
 | .map (some b) => [(b, .map #[] 0)]
 | _ => []
def MP.mk0 : MP := ⟨fun _ v => ∃ b, v = .map (some b), fun _ h => h, Xj9⟩
def MP.box (o : Obj) : MP := ⟨fun _ v => ∃ b, v = .pointer (some ⟨b, 0, none⟩), fun _ h => h, Zg0 o⟩
def Ys8 (acc : List Nat) (o : Oper) : Nat :=
 o.after.toList.foldl (fun s e => if Region.binds .any e then s ||| (2 ^ e.on ||| acc.getD e.on 0) else s) 0
def Q4 : List Oper → List Nat → List Nat
 | [], acc => acc
 | o :: r, acc => Q4 r (acc ++ [Ys8 acc o])
theorem Xq2 (acc : List Nat) (i : Nat) : ∀ (es : List Edge) (s : Nat),
 (es.foldl (fun s e => if Region.binds .any e then s ||| (2 ^ e.on ||| acc.getD e.on 0) else s) s).testBit i = true →
 s.testBit i = true ∨ ∃ e, e ∈ es ∧ Region.binds .any e = true ∧ (i = e.on ∨ (acc.getD e.on 0).testBit i = true)
 | [], s, h => .inl h
 | e :: es, s, h => by
  simp only [foldl_cons] at h
  rcases Xq2 acc i es _ h with h | ⟨e', he, hb, hi⟩
  split at h
  rename_i hbd
  rw [Nat.testBit_or, Bool.or_eq_true, Nat.testBit_or, Bool.or_eq_true] at h
  rcases h with h | h | h
  exact .inl h
  refine .inr ⟨e, mem_cons_self .., hbd, .inl ?_⟩
  rw [Nat.testBit_two_pow] at h
  exact (of_decide_eq_true h).symm
  exact .inr ⟨e, mem_cons_self .., hbd, .inr h⟩
  exact .inl h
  exact .inr ⟨e', mem_cons_of_mem _ he, hb, hi⟩
theorem Xj1 {acc : List Nat} {o : Oper} {i : Nat} (h : (Ys8 acc o).testBit i = true) :
 ∃ e, e ∈ o.after.toList ∧ Region.binds .any e = true ∧ (i = e.on ∨ (acc.getD e.on 0).testBit i = true) := by
 rcases Xq2 acc i _ _ h with h | h
 simp at h
 exact h
theorem Xr2 : ∀ (l : List Oper) (acc : List Nat), (Q4 l acc).length = acc.length + l.length
 | [], acc => by simp [Q4]
 | o :: r, acc => by rw [Q4, Xr2 r]; simp; omega
theorem Xa2 : ∀ (l : List Oper) (acc : List Nat) (i : Nat), i < acc.length → (Q4 l acc)[i]? = acc[i]?
 | [], acc, i, _ => rfl
 | o :: r, acc, i, h => by rw [Q4, Xa2 r _ i (by simp; omega), getElem?_append_left h]
theorem Yv3 : ∀ (l : List Oper) (acc : List Nat) (j : Nat) (o : Oper), l[j]? = some o →
 (Q4 l acc)[acc.length + j]? = some (Ys8 ((Q4 l acc).take (acc.length + j)) o)
 | [], acc, j, o, h => by simp at h
 | x :: r, acc, 0, o, h => by
  simp at h; subst h
  rw [Q4]
  have h1 : (Q4 r (acc ++ [Ys8 acc x]))[acc.length + 0]? = some (Ys8 acc x) := by
   rw [Xa2 _ _ _ (by simp)]; simp
  rw [h1]
  congr 2
  apply ext_getElem?
  intro i
  rw [getElem?_take]
  split
  rw [Xa2 _ _ _ (by simp; omega), getElem?_append_left (by omega)]
  rw [getElem?_eq_none (by omega)]
 | x :: r, acc, j + 1, o, h => by
  simp at h
  have := Yv3 r (acc ++ [Ys8 acc x]) j o h
  rw [Q4]
  simp only [length_append, length_singleton] at this
  rw [show acc.length + (j + 1) = acc.length + 1 + j by omega]
  exact this
def Yz4 : List Oper → Bool
 | [] => true
 | o :: r => (r.all fun p => match o.dst, p.dst with | some a, some b => !Nat.beq a b | _, _ => true) && Yz4 r
def Ze8 (l : List Oper) (m : Nat) : Bool :=
 (l.zipIdx.all fun (o, j) => o.after.toList.all fun e => !Region.binds .any e || Nat.blt e.on j) &&
 (((Q4 l []).zipIdx.all fun (k, j) => Nat.blt j m || Nat.beq ((k + 1) % 2 ^ j) 0) && Yz4 (l.take m))
def inD (l : List Oper) (t : Nat) : Bool := l.any fun o => match o.dst with | some d => Nat.beq d t | none => false
def M6 (step : Nat → Oper → Prop) : List Oper → Nat → Prop
 | [], _ => True
 | o :: r, j => step j o ∧ M6 step r (j + 1)
theorem W9 {step : Nat → Oper → Prop} {j : Nat} : M6 step [] j := trivial
theorem M6.at {step : Nat → Oper → Prop} : ∀ {l : List Oper} {k : Nat}, M6 step l k → ∀ {j : Nat} {o : Oper}, l[j]? = some o → step (k + j) o
 | [], _, _, j, o, h => by simp at h
 | x :: r, k, hh, 0, o, h => by simp at h; subst h; exact hh.1
 | x :: r, k, hh, j + 1, o, h => by
  simp at h
  have := M6.at hh.2 h
  rwa [show k + 1 + j = k + (j + 1) by omega] at this
section
variable {P : Program} {n : Nat} {l : List Oper} {m : Nat} {tab : Nat → MP} {con : Con} {H : FH} {L : OL} {f0 : Fr} {J : Fr → World → Prop}
def Zg3 (P : Program) (n : Nat) (l : List Oper) (m : Nat) (tab : Nat → MP) (con : Con) (H : FH) (L : OL) (f0 : Fr) (j : Nat) (o : Oper) : Prop :=
 ∀ (f : Fr) (w : World) (H' : FH) (X : OL), Sub H H' → St H' w (X ++ L) → (∀ t, inD (l.take m) t = false → f t = f0 t) →
  (∀ i d, ((Q4 l []).getD j 0).testBit i = true → (l[i]?).bind (·.dst) = some d → (tab d).p H' (f d)) →
  (∀ k c, con.by_ k = some c → ((Q4 l []).getD j 0).testBit k = true → c.q H' (f c.d)) →
  X7 P n l.toArray (fun f' w' => ∃ d v H'', o.dst = some d ∧ f' = upd f d v ∧ Sub H' H'' ∧ St H'' w' ((tab d).res v ++ (X ++ L)) ∧ (tab d).p H'' v) [o] f w
theorem evT {f f0 : Fr} {t : Nat} {v : Value} (h : f t = f0 t) (h' : ev f0 (.tmp t) = v) : ev f (.tmp t) = v := (show ev f (.tmp t) = ev f0 (.tmp t) from h).trans h'
theorem qn {P : Program} {n : Nat} {ops : Array Oper} {tab : Nat → MP} {H' H'' : FH} {X L : OL} {f : Fr} {w : World} {o : Oper} {d : Nat} {v : Value} (hs : Sub H' H'') (ho : o.dst = some d) (hS : St H'' w ((tab d).res v ++ (X ++ L))) (hp : (tab d).p H'' v) :
 X7 P n ops (fun f' w' => ∃ d v H'', o.dst = some d ∧ f' = upd f d v ∧ Sub H' H'' ∧ St H'' w' ((tab d).res v ++ (X ++ L)) ∧ (tab d).p H'' v) [] (upd f d v) w := Z2 ⟨d, v, _, ho, U, hs, hS, hp⟩
def Wj7 (P : Program) (n : Nat) (l : List Oper) (m : Nat) (tab : Nat → MP) (con : Con) (H : FH) (L : OL) (f0 : Fr) (d x : Nat) (r2 : Value → Value → OL) (q2 : FH → Value → Prop) (j : Nat) (o : Oper) : Prop :=
 ∀ (f : Fr) (w : World) (H' : FH) (X : OL), Sub H H' → St H' w ((tab d).res (f d) ++ (X ++ L)) → (∀ t, inD (l.take m) t = false → f t = f0 t) →
  (∀ i d, ((Q4 l []).getD j 0).testBit i = true → (l[i]?).bind (·.dst) = some d → (tab d).p H' (f d)) →
  (∀ k c, con.by_ k = some c → ((Q4 l []).getD j 0).testBit k = true → c.q H' (f c.d)) →
  X7 P n l.toArray (fun f' w' => ∃ H'', o.dst = none ∧ f' = f ∧ Sub H' H'' ∧ St H'' w' (r2 (f x) (f d) ++ (X ++ L)) ∧ q2 H'' (f d)) [o] f w
def Ze2 (P : Program) (n : Nat) (l : List Oper) (m : Nat) (tab : Nat → MP) (con : Con) (H : FH) (L : OL) (f0 : Fr) (j : Nat) (o : Oper) : Prop :=
 match con.by_ j with
 | none => Zg3 P n l m tab con H L f0 j o
 | some c => Wj7 P n l m tab con H L f0 c.d c.x c.r c.q j o
theorem W7 {P : Program} {n : Nat} {l : List Oper} {m : Nat} {tab : Nat → MP} {con : Con} {H : FH} {L : OL} {f0 : Fr} {j : Nat} {o : Oper} {r : List Oper} (hc : con.by_ j = none)
 (h : Zg3 P n l m tab con H L f0 j o) (h' : M6 (Ze2 P n l m tab con H L f0) r (j + 1)) : M6 (Ze2 P n l m tab con H L f0) (o :: r) j := by
 refine ⟨?_, h'⟩
 unfold Ze2; rw [hc]; exact h
theorem Yj9 {P : Program} {n : Nat} {l : List Oper} {m : Nat} {tab : Nat → MP} {con : Con} {H : FH} {L : OL} {f0 : Fr} {j : Nat} {c : Co} {o : Oper} {r : List Oper} (hc : con.by_ j = some c)
 (h : Wj7 P n l m tab con H L f0 c.d c.x c.r c.q j o) (h' : M6 (Ze2 P n l m tab con H L f0) r (j + 1)) : M6 (Ze2 P n l m tab con H L f0) (o :: r) j := by
 refine ⟨?_, h'⟩
 unfold Ze2; rw [hc]; exact h
def V5 (tab : Nat → MP) (con : Con) (l : List Oper) (f : Fr) (on : Nat → Bool) (j : Nat) : OL :=
 if on j then (match (l[j]?).bind (·.dst) with
  | some d => match con.of j with
   | some c => if on c.k then c.r (f c.x) (f d) else (tab d).res (f d)
   | none => (tab d).res (f d)
  | none => []) else []
def Zx9 (con : Con) (l : List Oper) (m : Nat) : Bool :=
 con.all fun c => Nat.blt c.k m && (Nat.blt c.mk_ m && (((Q4 l []).getD c.k 0).testBit c.mk_ &&
  ((match (l[c.mk_]?).bind (·.dst) with | some d => Nat.beq d c.d | none => false) && ((Nat.blt c.i m && (((Q4 l []).getD c.k 0).testBit c.i &&
   (match (l[c.i]?).bind (·.dst) with | some d => Nat.beq d c.x | none => false))) && con.all fun e => (Nat.beq e.mk_ c.mk_ == Nat.beq e.k c.k)))))
theorem Ys9 {α : Type} {p q : α → Bool} : ∀ {xs : List α}, (∀ x, x ∈ xs → p x = q x) → xs.find? p = xs.find? q
 | [], _ => rfl
 | x :: xs, h => by
  rw [find?_cons, find?_cons, h x (mem_cons_self ..), Ys9 (fun y hy => h y (mem_cons_of_mem _ hy))]
theorem Wn0 {con : Con} {l : List Oper} {m : Nat} (h : Zx9 con l m = true) {c : Co} (hm : c ∈ con) :
 c.k < m ∧ c.mk_ < m ∧ ((Q4 l []).getD c.k 0).testBit c.mk_ = true ∧ (l[c.mk_]?).bind (·.dst) = some c.d ∧
 (c.i < m ∧ ((Q4 l []).getD c.k 0).testBit c.i = true ∧ (l[c.i]?).bind (·.dst) = some c.x) ∧ ∀ e, e ∈ con → Nat.beq e.mk_ c.mk_ = Nat.beq e.k c.k := by
 have h0 := all_eq_true.1 h c hm
 simp only [Bool.and_eq_true] at h0
 obtain ⟨h1, h2, h3, h4, ⟨h6, h7, h8⟩, h5⟩ := h0
 refine ⟨by simpa [Nat.blt_eq] using h1, by simpa [Nat.blt_eq] using h2, h3, ?_, ⟨by simpa [Nat.blt_eq] using h6, h7, ?_⟩, fun e he => by simpa using all_eq_true.1 h5 e he⟩
 cases hd : (l[c.mk_]?).bind (·.dst) with
 | none => rw [hd] at h4; cases h4
 | some d => rw [hd] at h4; exact congrArg some (Nat.eq_of_beq_eq_true h4)
 cases hd : (l[c.i]?).bind (·.dst) with
 | none => rw [hd] at h8; cases h8
 | some d => rw [hd] at h8; exact congrArg some (Nat.eq_of_beq_eq_true h8)
theorem M0 {con : Con} {l : List Oper} {m : Nat} (h : Zx9 con l m = true) {j : Nat} {c : Co} (hc : con.of j = some c) :
 c.mk_ = j ∧ con.by_ c.k = some c ∧ c.k < m ∧ j < m ∧ ((Q4 l []).getD c.k 0).testBit j = true ∧ (l[j]?).bind (·.dst) = some c.d ∧
 (c.i < m ∧ ((Q4 l []).getD c.k 0).testBit c.i = true ∧ (l[c.i]?).bind (·.dst) = some c.x) := by
 have hm := mem_of_find?_eq_some hc
 have hj : c.mk_ = j := Nat.eq_of_beq_eq_true (by simpa using find?_some hc)
 have hh := Wn0 h hm
 refine ⟨hj, ?_, hh.1, hj ▸ hh.2.1, hj ▸ hh.2.2.1, hj ▸ hh.2.2.2.1, hh.2.2.2.2.1⟩
 have e : con.by_ c.k = con.of c.mk_ := by
  unfold Con.by_ Con.of
  refine Ys9 (fun e he => ((hh.2.2.2.2.2 e he).symm))
 rw [e, hj]; exact hc
theorem Zg6 {con : Con} {l : List Oper} {m : Nat} (h : Zx9 con l m = true) {k : Nat} {c : Co} (hc : con.by_ k = some c) :
 c.k = k ∧ con.of c.mk_ = some c ∧ k < m ∧ c.mk_ < m ∧ ((Q4 l []).getD k 0).testBit c.mk_ = true ∧ (l[c.mk_]?).bind (·.dst) = some c.d := by
 have hm := mem_of_find?_eq_some hc
 have hj : c.k = k := Nat.eq_of_beq_eq_true (by simpa using find?_some hc)
 have hh := Wn0 h hm
 refine ⟨hj, ?_, hj ▸ hh.1, hh.2.1, hj ▸ hh.2.2.1, hh.2.2.2.1⟩
 have e : con.by_ c.k = con.of c.mk_ := by
  unfold Con.by_ Con.of
  refine Ys9 (fun e he => ((hh.2.2.2.2.2 e he).symm))
 rw [← e, hj]; exact hc
theorem Zn2 {g : Nat → OL} {j : Nat} : ∀ (is : List Nat), is.Nodup → j ∈ is → (is.flatMap g).Perm (g j ++ is.flatMap fun i => if i = j then [] else g i)
 | [], _, h => by cases h
 | i :: is, hn, h => by
  rw [flatMap_cons, flatMap_cons]
  obtain ⟨hni, hn'⟩ := nodup_cons.1 hn
  by_cases e : i = j
  subst e
  have : is.flatMap (fun k => if k = i then [] else g k) = is.flatMap g := by
   have : ∀ (xs : List Nat), i ∉ xs → xs.flatMap (fun k => if k = i then [] else g k) = xs.flatMap g := by
    intro xs
    induction xs with
    | nil => intro _; rfl
    | cons y ys ih =>
     intro hx
     have hyi : ¬ y = i := fun h => hx (by rw [h]; exact mem_cons_self ..)
     rw [flatMap_cons, flatMap_cons, ih (fun h => hx (mem_cons_of_mem _ h)), if_neg hyi]
   exact this is hni
  rw [this, if_pos U]; simp
  have hj : j ∈ is := (mem_cons.1 h).resolve_left (fun h => e h.symm)
  rw [if_neg e]
  refine ((Zn2 is hn' hj).append_left (g i)).trans ?_
  rw [← append_assoc, ← append_assoc]
  exact perm_append_comm.append_right _
theorem Yb6 {g g' : Nat → OL} {j : Nat} : ∀ (is : List Nat), is.Nodup → j ∈ is → g j = [] → (∀ i, i ≠ j → g' i = g i) → (is.flatMap g').Perm (g' j ++ is.flatMap g)
 | [], _, h, _, _ => by cases h
 | i :: is, hn, h, h0, hne => by
  rw [flatMap_cons, flatMap_cons]
  obtain ⟨hni, hn'⟩ := nodup_cons.1 hn
  by_cases e : i = j
  subst e
  have : is.flatMap g' = is.flatMap g := by
   have : ∀ (xs : List Nat), i ∉ xs → xs.flatMap g' = xs.flatMap g := by
    intro xs
    induction xs with
    | nil => intro _; rfl
    | cons y ys ih =>
     intro hx
     rw [flatMap_cons, flatMap_cons, ih (fun h => hx (mem_cons_of_mem _ h)), hne y (fun h => hx (h ▸ mem_cons_self ..))]
   exact this is hni
  rw [this, h0]; simp
  have hj : j ∈ is := (mem_cons.1 h).resolve_left (fun h => e h.symm)
  rw [hne i e]
  refine ((Yb6 is hn' hj h0 hne).append_left (g i)).trans ?_
  rw [← append_assoc, ← append_assoc]
  exact perm_append_comm.append_right _
def Yb8 (l : List Oper) (listed : Array Bool) : Prop :=
 ∀ j, listed.getD j false = true → ∀ i, ((Q4 l []).getD j 0).testBit i = true → listed.getD i false = true
theorem Zv0 {listed : Array Bool} {j : Nat} {o : Oper} (ho : l[j]? = some o) (hc : Yb8 l listed) (hj : j < listed.size)
 (hr : ∀ e, e ∈ o.after.toList → Region.binds .any e = true → listed.getD e.on false = true) : 
 (∀ i, ((Q4 l []).getD j 0).testBit i = true → listed.getD i false = true) ∧ Yb8 l (listed.setIfInBounds j true) := by
 have hm : ∀ i, ((Q4 l []).getD j 0).testBit i = true → listed.getD i false = true := by
  intro i hi
  have h1 := Yv3 l [] j o ho
  simp only [length_nil, Nat.zero_add] at h1
  rw [getD_eq_getElem?_getD, h1, Option.getD_some] at hi
  obtain ⟨e, he, hb, h⟩ := Xj1 hi
  have hl := hr e he hb
  rcases h with rfl | h
  exact hl
  refine hc e.on hl i ?_
  rw [getD_eq_getElem?_getD, getElem?_take] at h
  split at h
  rw [getD_eq_getElem?_getD]; exact h
  simp at h
 refine ⟨hm, fun k hk i hi => ?_⟩
 have hmono : ∀ i, listed.getD i false = true → (listed.setIfInBounds j true).getD i false = true := by
  intro i h
  rw [Array.getD_eq_getD_getElem?, Array.getElem?_setIfInBounds]
  split
  rename_i e; subst e; simp [hj]
  rwa [Array.getD_eq_getD_getElem?] at h
 by_cases e : k = j
 subst e; exact hmono i (hm i hi)
 refine hmono i (hc k ?_ i hi)
 rw [Array.getD_eq_getD_getElem?, Array.getElem?_setIfInBounds, if_neg (fun h => e h.symm)] at hk
 rwa [Array.getD_eq_getD_getElem?]
theorem F2 {listed : Array Bool} {j i : Nat} (h : (listed.setIfInBounds j true).getD i false = true) : i = j ∨ listed.getD i false = true := by
 rw [Array.getD_eq_getD_getElem?, Array.getElem?_setIfInBounds] at h
 split at h
 rename_i e; exact .inl e.symm
 rw [Array.getD_eq_getD_getElem?]; exact .inr h
def Yb1 (n : Nat) (J : Fr → World → Prop) : Exit → Act → World → Prop := fun e a' w' => e = .normal ∧ ∃ f', Zh2 n a' f' ∧ J f' w'
theorem Zd7 {listed : Array Bool} {j : Nat} (hs : listed.size = l.length) (h : j ∈ Region.ready .any l.toArray listed) :
 ∃ o, l[j]? = some o ∧ j < listed.size ∧ listed.getD j false = false ∧ ∀ e, e ∈ o.after.toList → Region.binds .any e = true → listed.getD e.on false = true := by
 unfold Region.ready at h
 obtain ⟨h1, h2⟩ := mem_filter.1 h
 have hj : j < l.length := by simpa using h1
 simp only [Bool.and_eq_true, Bool.not_eq_true'] at h2
 obtain ⟨h3, h4⟩ := h2
 have ho : l[j]? = some l[j] := by simp [hj]
 refine ⟨l[j], ho, by omega, ?_, ?_⟩
 rw [Array.getD_eq_getD_getElem?] at h3 ⊢
 have : j < listed.size := by omega
 simpa [this] using h3
 intro e he hb
 simp only [getElem?_toArray, ho, Option.map_some, Option.getD_some] at h4
 have := (Array.all_eq_true_iff_forall_mem.1 h4) e (by simpa using he)
 simpa [hb] using this
theorem Zy2 {listed : Array Bool} (hs : listed.size = l.length) (hback : ∀ j o, l[j]? = some o → ∀ e, e ∈ o.after.toList → Region.binds .any e = true → e.on < j)
 (h : Region.ready .any l.toArray listed = []) : ∀ j, j < l.length → listed.getD j false = true := by
 intro j
 induction j using Nat.strongRecOn with
 | _ j ih =>
  intro hj
  cases hl : listed.getD j false with
  | true => rfl
  | false =>
   exfalso
   have : j ∈ Region.ready .any l.toArray listed := by
    unfold Region.ready
    refine mem_filter.2 ⟨by simpa using hj, ?_⟩
    have ho : l[j]? = some l[j] := by simp [hj]
    simp only [Bool.and_eq_true, Bool.not_eq_true']
    refine ⟨?_, ?_⟩
    rw [Array.getD_eq_getD_getElem?] at hl ⊢
    have : j < listed.size := by omega
    simpa [this] using hl
    simp only [getElem?_toArray, ho, Option.map_some, Option.getD_some]
    refine Array.all_eq_true_iff_forall_mem.2 fun e he => ?_
    cases hb : Region.binds .any e with
    | false => simp
    | true =>
     have hlt := hback j _ ho e (by simpa using he) hb
     simpa using ih e.on hlt (by omega)
   rw [h] at this
   cases this
theorem L5 {o : Oper} {j : Nat} {a : Act} {w : World} {f : Fr} {K : Act → World → Prop} {J1 : Fr → World → Prop} {Q : Exit → Act → World → Prop}
 (ho : l[j]? = some o) (ha : Zh2 n a f) (h : X7 P n l.toArray J1 [o] f w) (hK : ∀ f' a' w', Zh2 n a' f' → J1 f' w' → K a' w') : wpOp P l.toArray Q j K a w := by
 have h1 := h a ha
 unfold wpOp
 simp only [getElem?_toArray, ho]
 unfold wpList at h1
 split
 rename_i hw
 rw [if_pos hw] at h1
 rcases h1 with h1 | ⟨_, a0, w0, h0, _⟩
 left
 unfold Oper.wp at h1 ⊢
 revert h1
 generalize (execOp a.eval o).run P w = rr
 intro h1
 cases rr with
 | ok x w' =>
  cases x <;> simp only [Oper.upon] at h1 ⊢
  case value v => obtain ⟨_, f', ha', hJ⟩ := h1; exact hK _ _ _ ha' hJ
  case skip => obtain ⟨_, f', ha', hJ⟩ := h1; exact hK _ _ _ ha' hJ
  case defer dd => obtain ⟨_, f', ha', hJ⟩ := h1; exact hK _ _ _ ha' hJ
  case enter g args =>
   refine h1.mono fun e w'' he => ?_
   cases e with
   | returned v => obtain ⟨_, f', ha', hJ⟩ := he; exact hK _ _ _ ha' hJ
   | panicked ch => exact absurd he.1 (by simp)
   | outgrown => obtain ⟨a0, w0, h0, _⟩ := he; exact absurd h0 (by simp)
  case row row args =>
   refine h1.mono fun v w'' he => ?_
   obtain ⟨_, f', ha', hJ⟩ := he; exact hK _ _ _ ha' hJ
 | halt x w' =>
  cases x <;> simp only [Oper.upon] at h1 ⊢
  exact absurd h1.1 (by simp)
 exact absurd h0 (by simp)
 rename_i hw
 rw [if_neg hw] at h1
 obtain ⟨_, f', ha', hJ⟩ := h1
 exact hK _ _ _ ha' hJ
theorem Zu9 : ∀ (xs : List Bool) (j : Nat), xs[j]? = some false → (xs.set j true).countP id = xs.countP id + 1
 | [], j, h => by simp at h
 | x :: xs, 0, h => by simp at h; subst h; simp [countP_cons]
 | x :: xs, j + 1, h => by
  simp at h
  have := Zu9 xs j h
  simp only [set_cons_succ, countP_cons, this]
  omega
theorem Zu0 {xs : List Bool} (h : xs.countP id = xs.length) : ∀ j, j < xs.length → xs.getD j false = true := by
 intro j hj
 have := countP_eq_length.1 h xs[j] (getElem_mem hj)
 simpa [getD, hj] using this
theorem Zn5 (h : Ze8 l m = true) : ∀ j o, l[j]? = some o → ∀ e, e ∈ o.after.toList → Region.binds .any e = true → e.on < j := by
 intro j o ho e he hb
 unfold Ze8 at h
 rw [Bool.and_eq_true] at h
 have h1 := all_eq_true.1 h.1 (o, j) (by rw [mem_zipIdx_iff_getElem?]; exact ho)
 have h2 := all_eq_true.1 h1 e he
 simpa [hb, Nat.blt_eq] using h2
theorem L8 : ∀ {l : List Oper}, Yz4 l = true → ∀ {i j a b : Nat}, i ≠ j → (l[i]?).bind (·.dst) = some a → (l[j]?).bind (·.dst) = some b → a ≠ b
 | [], _, i, j, a, b, _, hi, _ => by simp at hi
 | o :: r, h, i, j, a, b, hij, hi, hj => by
  unfold Yz4 at h
  rw [Bool.and_eq_true] at h
  have hd : ∀ (k c e : Nat), (r[k]?).bind (·.dst) = some e → o.dst = some c → c ≠ e := by
   intro k c e hk hc
   cases hr : r[k]? with
   | none => rw [hr] at hk; cases hk
   | some q =>
    rw [hr] at hk
    have h1 := all_eq_true.1 h.1 q (mem_of_getElem? hr)
    simp only [bind_some] at hk
    rw [hc, hk] at h1
    intro e'
    subst e'
    simp at h1
  match i, j, hij, hi, hj with
  | 0, 0, hij, _, _ => exact absurd U hij
  | 0, j + 1, _, hi, hj => exact hd j a b (by simpa using hj) (by simpa using hi)
  | i + 1, 0, _, hi, hj => exact (hd i b a (by simpa using hi) (by simpa using hj)).symm
  | i + 1, j + 1, hij, hi, hj => exact L8 h.2 (i := i) (j := j) (by omega) (by simpa using hi) (by simpa using hj)
theorem P8 (h : Ze8 l m = true) : Yz4 (l.take m) = true := by
 unfold Ze8 at h
 rw [Bool.and_eq_true, Bool.and_eq_true] at h
 exact h.2.2
theorem Xy5 : ∀ (j k : Nat), (k + 1) % 2 ^ j = 0 → ∀ i, i < j → k.testBit i = true
 | 0, k, _, i, hi => by omega
 | j + 1, k, h, i, hi => by
  have hd : 2 ^ (j + 1) ∣ k + 1 := Nat.dvd_of_mod_eq_zero h
  have h2 : 2 ∣ k + 1 := Nat.dvd_trans ⟨2 ^ j, by rw [Nat.pow_succ, Nat.mul_comm]⟩ hd
  cases i with
  | zero => rw [Nat.testBit_zero]; simp; omega
  | succ i =>
   rw [Nat.testBit_succ]
   refine Xy5 j (k / 2) ?_ i (by omega)
   obtain ⟨c, hc⟩ := hd
   have : k / 2 + 1 = 2 ^ j * c := by
    have e : k + 1 = 2 * (2 ^ j * c) := by rw [hc, Nat.pow_succ, Nat.mul_comm (2 ^ j) 2, Nat.mul_assoc]
    omega
   rw [this]; exact Nat.mul_mod_right _ _
theorem Zs3 (h : Ze8 l m = true) : ∀ j, m ≤ j → j < l.length → ∀ i, i < j → ((Q4 l []).getD j 0).testBit i = true := by
 intro j hm hj i hi
 unfold Ze8 at h
 rw [Bool.and_eq_true] at h
 have hl : j < (Q4 l []).length := by rw [Xr2]; simpa using hj
 rw [Bool.and_eq_true] at h
 have h1 := all_eq_true.1 h.2.1 ((Q4 l [])[j], j) (by rw [mem_zipIdx_iff_getElem?]; simp [hl])
 rw [getD_eq_getElem?_getD, getElem?_eq_getElem hl, Option.getD_some]
 simp only [Bool.or_eq_true, Nat.blt_eq, Nat.beq_eq] at h1
 rcases h1 with h1 | h1
 omega
 exact Xy5 j _ h1 i hi
theorem Wl7 {listed : Array Bool} {k : Nat} (hk : ∀ i, listed.getD i false = decide (i < k)) (j : Nat) (hj : j < listed.size) (e : j = k) :
 ∀ i, (listed.setIfInBounds j true).getD i false = decide (i < k + 1) := by
 intro i
 rw [Array.getD_eq_getD_getElem?, Array.getElem?_setIfInBounds]
 by_cases h : j = i
 subst h; subst e; simp [hj]
 rw [if_neg h]
 have := hk i
 rw [Array.getD_eq_getD_getElem?] at this
 rw [this]
 rw [decide_eq_decide]; omega
theorem Yc5 (hok : Ze8 l m = true) : ∀ (fuel k : Nat) (listed : Array Bool) (a : Act) (w : World), listed.size = l.length → k + fuel = l.length → m ≤ k →
 (∀ i, listed.getD i false = decide (i < k)) → wpList P l.toArray (Yb1 n J) (l.drop k) a w → wpAny P .any l.toArray (Yb1 n J) fuel listed a w
 | 0, k, listed, a, w, hs, hk, hm, hl, h => by
  have e : l.drop k = [] := by rw [drop_eq_nil_iff]; omega
  rw [e] at h
  refine ⟨?_, h⟩
  cases hr : Region.ready .any l.toArray listed with
  | nil => rfl
  | cons j r =>
   obtain ⟨o, ho, hj, hf, _⟩ := Zd7 hs (by rw [hr]; exact mem_cons_self ..)
   rw [hl j] at hf
   have := of_decide_eq_false hf
   omega
 | fuel + 1, k, listed, a, w, hs, hk, hm, hl, h => by
  have hkl : k < l.length := by omega
  refine ⟨fun hr => ?_, fun j hj => ?_⟩
  have := Zy2 hs (Zn5 hok) hr k hkl
  rw [hl k] at this; simp at this
  obtain ⟨o, ho, hjs, hf, he⟩ := Zd7 hs hj
  rw [hl j] at hf
  have hjk : k ≤ j := Nat.le_of_not_lt (of_decide_eq_false hf)
  have hc : Yb8 l listed := by
   intro a1 h1 i hi
   rw [hl a1] at h1
   have h1 := of_decide_eq_true h1
   rw [hl i]
   apply decide_eq_true
   have hal : a1 < l.length := by omega
   have hm := Yv3 l [] a1 l[a1] (by simp [hal])
   simp only [length_nil, Nat.zero_add] at hm
   rw [getD_eq_getElem?_getD, hm, Option.getD_some] at hi
   have key : ∀ (b : Nat), b ≤ a1 → ∀ i, ((Q4 l []).getD b 0).testBit i = true → i < b := by
    intro b
    induction b using Nat.strongRecOn with
    | _ b ih =>
     intro hb i hi
     have hbl : b < l.length := by omega
     have hmb := Yv3 l [] b l[b] (by simp [hbl])
     simp only [length_nil, Nat.zero_add] at hmb
     rw [getD_eq_getElem?_getD, hmb, Option.getD_some] at hi
     obtain ⟨e, he, hbd, hx⟩ := Xj1 hi
     have hlt := Zn5 hok b _ (by simp [hbl]) e he hbd
     rcases hx with rfl | hx
     exact hlt
     rw [getD_eq_getElem?_getD, getElem?_take] at hx
     split at hx
     have := ih e.on hlt (by omega) i (by rw [getD_eq_getElem?_getD]; exact hx)
     omega
     rename_i hnot; exact absurd hlt hnot
   have := key a1 (Nat.le_refl _) i (by rw [getD_eq_getElem?_getD, hm, Option.getD_some]; exact hi)
   omega
  obtain ⟨hmk, _⟩ := Zv0 ho hc hjs he
  have hjl : j < l.length := by omega
  have hjk' : j = k := by
   rcases Nat.lt_or_ge k j with hlt | hge
   have := hmk k (Zs3 hok j (by omega) hjl k hlt)
   rw [hl k] at this; simp at this
   omega
  have hdrop : l.drop k = o :: l.drop (k + 1) := by
   rw [drop_eq_getElem_cons hkl]
   congr 1
   subst hjk'
   rw [getElem?_eq_getElem hkl] at ho
   exact Option.some.inj ho
  rw [hdrop] at h
  unfold wpList at h
  unfold wpOp
  simp only [getElem?_toArray, ho]
  have ih : ∀ a' w', wpList P l.toArray (Yb1 n J) (l.drop (k + 1)) a' w' → wpAny P .any l.toArray (Yb1 n J) fuel (listed.setIfInBounds j true) a' w' := fun a' w' h' =>
   Yc5 hok fuel (k + 1) _ a' w' (by simpa using hs) (by omega) (by omega) (Wl7 hl j hjs hjk') h'
  split
  rename_i hw
  rw [if_pos hw] at h
  exact h.imp (Oper.wp_mono ih) id
  rename_i hw
  rw [if_neg hw] at h
  exact ih _ _ h
theorem Zg9 {g g' : Nat → OL} : ∀ (is : List Nat), (∀ i, i ∈ is → g i = g' i) → is.flatMap g = is.flatMap g'
 | [], _ => rfl
 | i :: is, h => by rw [flatMap_cons, flatMap_cons, h i (mem_cons_self ..), Zg9 is (fun k hk => h k (mem_cons_of_mem _ hk))]
theorem Wo6 (hok : Ze8 l m = true) (hco : Zx9 con l m = true) (hml : m ≤ l.length) (hq : M6 (Ze2 P n l m tab con H L f0) (l.take m) 0)
 (ht : ∀ (f : Fr) (w : World) (H' : FH), Sub H H' → St H' w ((range m).flatMap (V5 tab con l f fun _ => true) ++ L) → (∀ t, inD (l.take m) t = false → f t = f0 t) →
  (∀ i d, i < m → (l[i]?).bind (·.dst) = some d → (tab d).p H' (f d)) → (∀ k c, con.by_ k = some c → c.q H' (f c.d)) → X7 P n l.toArray J (l.drop m) f w) :
 ∀ (fuel : Nat) (listed : Array Bool) (a : Act) (w : World) (f : Fr) (H' : FH), listed.size = l.length → listed.toList.countP id + fuel = l.length →
  (∀ i, listed.getD i false = true → i < m) → Yb8 l listed → Zh2 n a f → Sub H H' → St H' w ((range m).flatMap (V5 tab con l f fun i => listed.getD i false) ++ L) → (∀ t, inD (l.take m) t = false → f t = f0 t) →
  (∀ i d, listed.getD i false = true → (l[i]?).bind (·.dst) = some d → (tab d).p H' (f d)) → (∀ k c, con.by_ k = some c → listed.getD k false = true → c.q H' (f c.d)) → wpAny P .any l.toArray (Yb1 n J) fuel listed a w := by
 intro fuel
 induction fuel with
 | zero =>
  intro listed a w f H' hs hcnt hlt hc ha Z4 hS hb hv hqs
  have hall := Zu0 (xs := listed.toList) (by have := Array.length_toList (xs := listed); omega)
  have hget : ∀ i, i < l.length → listed.getD i false = true := fun i hi => by
   have := hall i (by simp; omega)
   rw [getD_eq_getElem?_getD] at this
   rw [Array.getD_eq_getD_getElem?]
   simpa using this
  have hme : m = l.length := by
   rcases Nat.lt_or_ge m l.length with h | h
   have := hlt m (hget m h); omega
   omega
  refine ⟨?_, ?_⟩
  cases hr : Region.ready .any l.toArray listed with
  | nil => rfl
  | cons j r =>
   obtain ⟨o, ho, hj, hf, _⟩ := Zd7 hs (by rw [hr]; exact mem_cons_self ..)
   rw [hget j (by omega)] at hf; cases hf
  have hS' : St H' w ((range m).flatMap (V5 tab con l f fun _ => true) ++ L) := by
   have : (range m).flatMap (V5 tab con l f fun i => listed.getD i false) = (range m).flatMap (V5 tab con l f fun _ => true) := by
    refine Zg9 _ (fun i hi => ?_)
    have e := hget i (by have := mem_range.1 hi; omega)
    have e2 : ∀ c, con.of i = some c → listed.getD c.k false = true := fun c hc => hget _ (by have := (M0 hco hc).2.2.1; omega)
    simp only [V5, e]
    cases hdi : (l[i]?).bind (·.dst) with
    | none => rfl
    | some d =>
     cases hof : con.of i with
     | none => rfl
     | some c => simp only [e2 c hof]
   rw [← this]; exact hS
  have := ht f w H' Z4 hS' hb (fun i d hi hd => hv i d (hget i (by omega)) hd) (fun k c hk => hqs k c hk (hget k (by have := (Zg6 hco hk).2.2.1; omega))) a ha
  rw [hme, drop_length] at this
  exact this
 | succ fuel ih =>
  intro listed a w f H' hs hcnt hlt hc ha Z4 hS hb hv hqs
  by_cases hall : ∀ i, i < m → listed.getD i false = true
  have hk : ∀ i, listed.getD i false = decide (i < m) := by
   intro i
   by_cases h : i < m
   rw [hall i h]; exact (decide_eq_true h).symm
   cases hg : listed.getD i false with
   | false => exact (decide_eq_false h).symm
   | true => exact absurd (hlt i hg) h
  have hcm : listed.toList.countP id = m := by
   have : ∀ (xs : List Bool) (k : Nat), k ≤ xs.length → (∀ i, xs.getD i false = decide (i < k)) → xs.countP id = k := by
    intro xs
    induction xs with
    | nil => intro k hk _; simp at hk; subst hk; rfl
    | cons x xs ihx =>
     intro k hk h
     have h0 := h 0
     simp at h0
     cases k with
     | zero =>
      have := ihx 0 (by omega) (fun i => by have := h (i + 1); simpa using this)
      have h0 : x = false := by simpa using h0
      subst h0
      simp [countP_cons, this]
     | succ k =>
      have := ihx k (by simpa using hk) (fun i => by have := h (i + 1); simpa using this)
      have h0 : x = true := by simpa using h0
      subst h0
      simp [countP_cons, this]
   refine this _ m (by simp; omega) (fun i => ?_)
   rw [← hk i, getD_eq_getElem?_getD, Array.getD_eq_getD_getElem?]
   simp
  have hS' : St H' w ((range m).flatMap (V5 tab con l f fun _ => true) ++ L) := by
   have : (range m).flatMap (V5 tab con l f fun i => listed.getD i false) = (range m).flatMap (V5 tab con l f fun _ => true) := by
    refine Zg9 _ (fun i hi => ?_)
    have e := hall i (mem_range.1 hi)
    have e2 : ∀ c, con.of i = some c → listed.getD c.k false = true := fun c hc => hall _ (M0 hco hc).2.2.1
    simp only [V5, e]
    cases hdi : (l[i]?).bind (·.dst) with
    | none => rfl
    | some d =>
     cases hof : con.of i with
     | none => rfl
     | some c => simp only [e2 c hof]
   rw [← this]; exact hS
  exact Yc5 hok (fuel + 1) m listed a w hs (by omega) (Nat.le_refl _) hk (ht f w H' Z4 hS' hb (fun i d hi hd => hv i d (hall i hi) hd) (fun k c hk => hqs k c hk (hall k (Zg6 hco hk).2.2.1)) a ha)
  refine ⟨fun hr => ?_, fun j hj => ?_⟩
  exact absurd (fun i hi => Zy2 hs (Zn5 hok) hr i (by omega)) hall
  obtain ⟨o, ho, hjs, hf, he⟩ := Zd7 hs hj
  obtain ⟨hmk, hc'⟩ := Zv0 ho hc hjs he
  have hjl : j < l.length := by omega
  have hjm : j < m := by
   rcases Nat.lt_or_ge j m with h | h
   exact h
   exact absurd (fun i hi => hmk i (Zs3 hok j h hjl i (by omega))) hall
  have hstep := hq.at (j := j) (o := o) (by rw [getElem?_take, if_pos hjm]; exact ho)
  rw [Nat.zero_add] at hstep
  have hset : ∀ i, i ≠ j → (listed.setIfInBounds j true).getD i false = listed.getD i false := fun i hij => by
   rw [Array.getD_eq_getD_getElem?, Array.getD_eq_getD_getElem?, Array.getElem?_setIfInBounds, if_neg (fun h => hij h.symm)]
  have hsj : (listed.setIfInBounds j true).getD j false = true := by rw [Array.getD_eq_getD_getElem?, Array.getElem?_setIfInBounds]; simp [hjs]
  have hx : listed.toList[j]? = some false := by
   rw [Array.getD_eq_getD_getElem?] at hf
   simpa [hjs] using hf
  have hcnt' : (listed.setIfInBounds j true).toList.countP id + fuel = l.length := by
   have := Zu9 listed.toList j hx
   rw [Array.toList_setIfInBounds]; rw [this]; omega
  have hlt' : ∀ i, (listed.setIfInBounds j true).getD i false = true → i < m := by
   intro i hi
   rcases F2 hi with rfl | h
   exact hjm
   exact hlt i h
  unfold Ze2 at hstep
  cases hby : con.by_ j with
  | none =>
   rw [hby] at hstep
   refine L5 ho ha (hstep f w H' _ Z4 hS hb (fun i d hi hd => hv i d (hmk i hi) hd) (fun k c hk hi => hqs k c hk (hmk k hi))) ?_
   rintro f' a' w' ha' ⟨d, v, H'', hd, rfl, hs2, hS2, hp⟩
   have hupd : ∀ t, upd f d v t = if t = d then v else f t := by
    intro t
    unfold upd
    by_cases e : t = d
    subst e; simp
    rw [if_neg e]
    cases hq : Nat.beq t d with
    | false => rfl
    | true => exact absurd (Nat.eq_of_beq_eq_true hq) e
   refine ih (listed.setIfInBounds j true) a' w' (upd f d v) H'' (by simpa using hs) hcnt' hlt' hc' ha' (Z4.trans hs2) ?_ ?_ ?_ ?_
   rw [← append_assoc] at hS2
   refine hS2.perm (List.Perm.append_right L ?_)
   have hdj : (l[j]?).bind (·.dst) = some d := by rw [ho]; exact hd
   have key := Yb6 (g := V5 tab con l f fun i => listed.getD i false) (g' := V5 tab con l (upd f d v) fun i => (listed.setIfInBounds j true).getD i false) (j := j) (range m) nodup_range (mem_range.2 hjm)
    (by simp only [V5, hf]; rfl)
    (by
     intro i hij
     simp only [V5, hset i hij]
     split
     rename_i hli
     cases hdi : (l[i]?).bind (·.dst) with
     | none => rfl
     | some c =>
      have hne : c ≠ d := by
       have hil := hlt i hli
       refine L8 (P8 hok) (i := i) (j := j) hij ?_ ?_
       rw [getElem?_take, if_pos hil]; exact hdi
       rw [getElem?_take, if_pos hjm]; exact hdj
      simp only
      rw [hupd, if_neg hne]
      cases hof : con.of i with
      | none => rfl
      | some e =>
       have hne2 : e.k ≠ j := by
        intro he
        have := (M0 hco hof).2.1
        rw [he, hby] at this; cases this
       simp only [hset e.k hne2]
       by_cases hoe : listed.getD e.k false = true
       case neg => rw [if_neg hoe, if_neg hoe]
       case pos =>
        rw [if_pos hoe, if_pos hoe]
        obtain ⟨_, _, _, _, _, _, h1, h2, h3⟩ := M0 hco hof
        have hli2 := hc _ hoe _ h2
        have hxd : e.x ≠ d := by
         refine L8 (P8 hok) (i := e.i) (j := j) (fun he => by rw [he, hf] at hli2; cases hli2) ?_ ?_
         rw [getElem?_take, if_pos h1]; exact h3
         rw [getElem?_take, if_pos hjm]; exact hdj
        rw [hupd, if_neg hxd]
     rfl)
   have hj' : V5 tab con l (upd f d v) (fun i => (listed.setIfInBounds j true).getD i false) j = (tab d).res v := by
    simp only [V5, hsj, hdj]
    cases hof : con.of j with
    | none => simp [hupd]
    | some e =>
     obtain ⟨_, hb1, _, _, hb2, _, _⟩ := M0 hco hof
     have hej : e.k ≠ j := by
      intro he; rw [he, hby] at hb1; cases hb1
     have hoff : listed.getD e.k false = false := by
      cases hq : listed.getD e.k false with
      | false => rfl
      | true => exact absurd (hc _ hq j hb2) (by rw [hf]; simp)
     simp [hset _ hej, hoff, hupd]
   rw [hj'] at key
   exact key
   intro t ht'
   rw [hupd, if_neg, hb t ht']
   rintro rfl
   have : inD (l.take m) t = true := by
    unfold inD
    refine any_eq_true.2 ⟨o, mem_of_getElem? (i := j) (by rw [getElem?_take, if_pos hjm]; exact ho), ?_⟩
    rw [hd]; simp
   rw [this] at ht'; cases ht'
   intro i d' hi hd'
   rw [hupd]
   by_cases e : d' = d
   subst e; rw [if_pos rfl]; exact hp
   rw [if_neg e]
   rcases F2 hi with rfl | h
   rw [ho] at hd'
   simp only [bind_some] at hd'
   rw [hd] at hd'
   exact absurd (Option.some.inj hd').symm e
   exact (tab d').mono hs2 (hv i d' h hd')
   intro k c hk hi
   have hkj : k ≠ j := by
    intro e; rw [e, hby] at hk; cases hk
   rw [hset k hkj] at hi
   obtain ⟨hk0, _, _, him, hbit, hdst⟩ := Zg6 hco hk
   have hli := hc _ hi _ hbit
   have hne : c.d ≠ d := by
    refine L8 (P8 hok) (i := c.mk_) (j := j) (fun he => by rw [he, hf] at hli; cases hli) ?_ ?_
    rw [getElem?_take, if_pos him]; exact hdst
    rw [getElem?_take, if_pos hjm, ho]; exact hd
   rw [hupd, if_neg hne]
   exact c.qm hs2 (hqs k c hk hi)
  | some c =>
   rw [hby] at hstep
   obtain ⟨hc1, hof, _, him, hbit, hdst⟩ := Zg6 hco hby
   have hij : c.mk_ ≠ j := by
    intro he
    have := hmk _ hbit
    rw [he, hf] at this; cases this
   have honi := hmk _ hbit
   have hgi : V5 tab con l f (fun i => listed.getD i false) c.mk_ = (tab c.d).res (f c.d) := by
    simp only [V5, honi, hdst, hof, hc1, hf]; rfl
   have hsp := Zn2 (g := V5 tab con l f fun i => listed.getD i false) (j := c.mk_) (range m) nodup_range (mem_range.2 him)
   rw [hgi] at hsp
   have hS1 := hS.perm (List.Perm.append_right L hsp.symm)
   rw [append_assoc] at hS1
   refine L5 ho ha (hstep f w H' _ Z4 hS1 hb (fun i d hi hd => hv i d (hmk i hi) hd) (fun k c hk hi => hqs k c hk (hmk k hi))) ?_
   rintro f' a' w' ha' ⟨H'', hd, rfl, hs2, hS2, hq2⟩
   refine ih (listed.setIfInBounds j true) a' w' f' H'' (by simpa using hs) hcnt' hlt' hc' ha' (Z4.trans hs2) ?_ hb ?_ ?_
   rw [← append_assoc] at hS2
   refine hS2.perm (List.Perm.append_right L ?_)
   have hsp2 := Zn2 (g := V5 tab con l f' fun i => (listed.setIfInBounds j true).getD i false) (j := c.mk_) (range m) nodup_range (mem_range.2 him)
   have hgi2 : V5 tab con l f' (fun i => (listed.setIfInBounds j true).getD i false) c.mk_ = c.r (f' c.x) (f' c.d) := by
    simp only [V5, hset _ hij, honi, hdst, hof, hc1, hsj]; rfl
   rw [hgi2] at hsp2
   have hrest : ((range m).flatMap fun i => if i = c.mk_ then [] else V5 tab con l f' (fun i => (listed.setIfInBounds j true).getD i false) i) = (range m).flatMap fun i => if i = c.mk_ then [] else V5 tab con l f' (fun i => listed.getD i false) i := by
    refine Zg9 _ (fun i hi => ?_)
    by_cases e : i = c.mk_
    rw [if_pos e, if_pos e]
    rw [if_neg e, if_neg e]
    by_cases eij : i = j
    subst eij
    have : (l[i]?).bind (·.dst) = none := by rw [ho]; exact hd
    simp only [V5, this, hf, hsj]; rfl
    simp only [V5, hset i eij]
    cases hdi : (l[i]?).bind (·.dst) with
    | none => rfl
    | some d =>
     cases he' : con.of i with
     | none => rfl
     | some e' =>
      have hne2 : e'.k ≠ j := by
       intro hk
       have h1 := (M0 hco he').2.1
       rw [hk, hby] at h1
       have h2 := (M0 hco he').1
       rw [← Option.some.inj h1] at h2
       exact e h2.symm
      simp only [hset e'.k hne2]
   rw [hrest] at hsp2
   exact hsp2
   intro i d' hi hd'
   rcases F2 hi with rfl | h
   rw [ho] at hd'
   simp only [bind_some] at hd'
   rw [hd] at hd'; cases hd'
   exact (tab d').mono hs2 (hv i d' h hd')
   intro k e hk hi
   by_cases hkj : k = j
   subst hkj
   rw [hby] at hk; cases hk
   exact hq2
   rw [hset k hkj] at hi
   exact e.qm hs2 (hqs k e hk hi)
end
theorem W6 {P : Program} {n : Nat} {g : FuncId} {R : Ending → World → Prop} {K : List Item} {l : List Oper} {id : Nat} {H : FH} {L : OL} {f0 : Fr} {w : World}
 (m : Nat) (tab : Nat → MP) (con : Con) (hmix : P.follows .mixedOrders = true) (hok : Ze8 l m = true) (hco : Zx9 con l m = true) (hml : Nat.ble m l.length = true) (hS : St H w L)
 (hq : M6 (Ze2 P n l m tab con H L f0) (l.take m) 0)
 (ht : ∀ (f : Fr) (w : World) (H' : FH), Sub H H' → St H' w ((range m).flatMap (V5 tab con l f fun _ => true) ++ L) → (∀ t, inD (l.take m) t = false → f t = f0 t) →
  (∀ i d, i < m → (l[i]?).bind (·.dst) = some d → (tab d).p H' (f d)) → (∀ k c, con.by_ k = some c → c.q H' (f c.d)) → X7 P n l.toArray (fun f' w' => Run P n g R K f' w') (l.drop m) f w) :
 Run P n g R (.code (.region id l.toArray true) :: K) f0 w := by
 intro a ha b cs hb hk
 have hml' : m ≤ l.length := by simpa [Nat.ble_eq] using hml
 have hwp : (Code.region id l.toArray true).wp P (Yb1 n (fun f' w' => Run P n g R K f' w')) a w := by
  refine wp_region_any hmix ?_
  have := Wo6 (P := P) (J := fun f' w' => Run P n g R K f' w') hok hco hml' hq ht l.length (Array.replicate l.length false) a w.drew f0 H (by simp) (by simp [countP_replicate]) ?_ ?_ ha (Sub.refl _) ?_ (fun _ _ => rfl) ?_ ?_
  simpa using this
  intro i hi; rw [Array.getD_eq_getD_getElem?, Array.getElem?_replicate] at hi; split at hi <;> simp at hi
  intro i hi; rw [Array.getD_eq_getD_getElem?, Array.getElem?_replicate] at hi; split at hi <;> simp at hi
  have : (range m).flatMap (V5 tab con l f0 fun i => (Array.replicate l.length false).getD i false) = [] := by
   rw [flatMap_eq_nil_iff]
   intro i _
   have : (Array.replicate l.length false).getD i false = false := by rw [Array.getD_eq_getD_getElem?, Array.getElem?_replicate]; split <;> rfl
   simp only [V5, this]; rfl
  rw [this]; exact hS.drew
  intro i d hi; rw [Array.getD_eq_getD_getElem?, Array.getElem?_replicate] at hi; split at hi <;> simp at hi
  intro k c _ hi; rw [Array.getD_eq_getD_getElem?, Array.getElem?_replicate] at hi; split at hi <;> simp at hi
 obtain ⟨e, a', w', ⟨rfl, f', ha', hJ⟩, harr⟩ := hwp b K cs
 obtain ⟨e, w'', fr, hR, hc, hf, hl⟩ := hJ a' ha' b cs hb hk
 exact ⟨e, w'', fr, hR, .of_steps harr hc, hf, hl⟩
def W0 {α : Type} (τ : Ty α) (E : TypeId) (H : FH) (v : Value) (xs : List α) (C : OL) : Prop :=
 (v = .slice none 0 0 ∧ xs = [] ∧ C = []) ∨ ∃ b c cs, v = .slice (some ⟨b, 0, none⟩) xs.length c ∧ xs.length ≤ c ∧ c ≤ maxLen ∧ cs.size = c * τ.size ∧ C = [(b, .cells cs E)] ∧
  ∀ i x, xs[i]? = some x → ∃ ecs, τ.rel H ecs x ∧ ∀ j, j < τ.size → cs[i * τ.size + j]? = ecs[j]?
theorem W0.mono {α : Type} {τ : Ty α} {E : TypeId} {H H' : FH} {v : Value} {xs : List α} {C : OL} (hs : Sub H H') (h : W0 τ E H v xs C) : W0 τ E H' v xs C := by
 rcases h with h | ⟨b, c, cs, hv, h1, h2, h3, h4, h5⟩
 exact .inl h
 exact .inr ⟨b, c, cs, hv, h1, h2, h3, h4, fun i x hx => let ⟨ecs, hr, hj⟩ := h5 i x hx; ⟨ecs, τ.mono hs hr, hj⟩⟩
theorem W0.nil {α : Type} (τ : Ty α) (E : TypeId) (H : FH) : W0 τ E H (.slice none 0 0) [] [] := .inl ⟨U, U, U⟩
theorem W0.freeze {α : Type} {τ : Ty α} {E : TypeId} {H : FH} {v : Value} {xs : List α} {C L : OL} {w : World} (h : W0 τ E H v xs C) (hS : St H w (C ++ L)) :
 ∃ H', Sub H H' ∧ St H' w L ∧ Y3 τ H' v xs := by
 rcases h with ⟨rfl, rfl, rfl⟩ | ⟨b, c, cs, rfl, h1, h2, h3, rfl, h5⟩
 exact ⟨H, Sub.refl _, hS, none, 0, ⟨U, by simp⟩, .inl U⟩
 have hS' : St H w ((b, .cells cs E) :: L) := hS
 have Z4 := Sub.add (o := .cells cs E) hS'.none
 refine ⟨_, Z4, hS'.freeze, _, c, ⟨U, by simp only [maxLen] at h2; omega⟩, .inr ⟨b, 0, cs, (E, 0, 0), U, FH.add_self .., fun i x hx => ?_⟩⟩
 obtain ⟨ecs, hr, hj⟩ := h5 i x hx
 exact ⟨ecs, τ.mono Z4 hr, fun j hj' => by rw [Nat.zero_add]; exact hj j hj'⟩
structure ApI (P : Program) (T E : TypeId) (s bytes : Nat) (z : Value) : Prop where
 under : P.underlying T = some (.slice E)
 info : ∃ i, P.info? E = some i ∧ i.zero = some z ∧ i.size = s ∧ i.bytes = bytes
 zs : z.cells.size = s
 pos : 0 < s
 small : bytes ≤ 128
theorem Xk9 {α : Type} {τ : Ty α} {H : FH} {cs : Array Value} {o : Nat} {xs : List α}
 (h : ∀ i x, xs[i]? = some x → ∃ ecs, τ.rel H ecs x ∧ ∀ j, j < τ.size → cs[o + i * τ.size + j]? = ecs[j]?) :
 ∃ news : List Value, news.length = xs.length * τ.size ∧ (∀ u, u ∈ news → u.oneCell' = true) ∧ (∀ j u, news[j]? = some u → cs[o + j]? = some u) ∧
  ∀ i x, xs[i]? = some x → ∃ ecs, τ.rel H ecs x ∧ ∀ j, j < τ.size → news[i * τ.size + j]? = ecs[j]? := by
 induction xs generalizing o with
 | nil => exact ⟨[], by simp, by simp, by simp, by simp⟩
 | cons x xs ih =>
  obtain ⟨e0, hr0, hj0⟩ := h 0 x U
  obtain ⟨news, hl, h1, hc, hx⟩ := ih (o := o + τ.size) (fun i y hy => by
   obtain ⟨e, hr, hj⟩ := h (i + 1) y (by simpa using hy)
   refine ⟨e, hr, fun j hjs => ?_⟩
   rw [← hj j hjs]; congr 1; rw [Nat.add_mul]; omega)
  have hl0 := τ.len hr0
  refine ⟨e0 ++ news, by rw [length_append, hl, hl0, length_cons, Nat.add_mul]; omega, ?_, ?_, ?_⟩
  intro u hu
  exact (mem_append.1 hu).elim (τ.one hr0 u) (h1 u)
  intro j u hu
  by_cases hj : j < τ.size
  rw [getElem?_append_left (by omega)] at hu
  have := hj0 j hj
  simp only [Nat.zero_mul, Nat.add_zero] at this
  rw [this]; exact hu
  rw [getElem?_append_right (by omega), hl0] at hu
  have := hc (j - τ.size) u hu
  rwa [show o + τ.size + (j - τ.size) = o + j by omega] at this
  intro i y hy
  cases i with
  | zero =>
   simp at hy; subst hy
   refine ⟨e0, hr0, fun j hj => ?_⟩
   rw [Nat.zero_mul, Nat.zero_add, getElem?_append_left (by omega)]
  | succ i =>
   obtain ⟨e, hr, hj⟩ := hx i y (by simpa using hy)
   refine ⟨e, hr, fun j hjs => ?_⟩
   rw [getElem?_append_right (by rw [hl0, Nat.add_mul]; omega), hl0, ← hj j hjs]
   congr 1; rw [Nat.add_mul]; omega
theorem Xs4 {α : Type} {τ : Ty α} {P : Program} {T E ty : TypeId} {s bytes : Nat} {z : Value} (t : ApI P T E s bytes z) (hs : τ.size = s) {H : FH} {w : World} {L C : OL} {v u : Value} {xs ys : List α}
 (ho : W0 τ E H v xs C) (hS : St H w (C ++ L)) (hu : Y3 τ H u ys) (hb : xs.length + ys.length ≤ 1099511627776) :
 ∃ v' w' C', (Builtin.append_ #[T, T] ty #[v, u]).run P w = .ok v' w' ∧ W0 τ E H v' (xs ++ ys) C' ∧ St H w' (C' ++ L) := by
 subst hs
 obtain ⟨info, hi, hz, hsz, hby⟩ := t.info
 have hsmall := t.small
 have hbytes : (xs.length + ys.length) * info.bytes ≤ 140737488355328 := by
  rw [hby]
  calc (xs.length + ys.length) * bytes ≤ 1099511627776 * 128 := Nat.mul_le_mul hb hsmall
   _ = 140737488355328 := by decide
 obtain ⟨a, cu, ⟨hu, _⟩, hu'⟩ := hu
 subst hu
 rcases hu' with rfl | ⟨b2, o2, cs2, E2, rfl, hb2, hc2⟩
 refine ⟨v, w, C, ?_, by simpa using ho, hS⟩
 rcases ho with ⟨rfl, rfl, rfl⟩ | ⟨b, c, cs, rfl, h1, h2, h3, rfl, h5⟩ <;> cases a
 simp [Builtin.append_, run_underlying t.under, sizeOf, typeInfo, hi, Builtin.lenOf, Builtin.firstCells]
 simp [Builtin.append_, run_underlying t.under, sizeOf, typeInfo, hi, Builtin.lenOf, Builtin.firstCells, loadCells, loadCellsFrom]
 simp [Builtin.append_, run_underlying t.under, sizeOf, typeInfo, hi, Builtin.lenOf, Builtin.firstCells, h1, storeCells]
 simp [Builtin.append_, run_underlying t.under, sizeOf, typeInfo, hi, Builtin.lenOf, Builtin.firstCells, h1, storeCells, loadCells, loadCellsFrom]
 obtain ⟨news, hnl, hn1, hnc, hnx⟩ := Xk9 hc2
 have hw2 := hS.froz _ _ hb2
 have hcell : ∀ j u, news[j]? = some u → w.cell? ((⟨b2, o2, none⟩ : Addr).add j) = some u := fun j u hj => by
  rw [Q2, Yg2 hw2]; exact hnc j u hj
 rw [← hsz] at hnl
 rcases ho with ⟨rfl, rfl, rfl⟩ | ⟨b, c, cs, rfl, h1, h2, h3, rfl, h5⟩
 by_cases h0 : ys.length = 0
 have hy : ys = [] := eq_nil_of_length_eq_zero h0
 subst hy
 have hn : news = [] := eq_nil_of_length_eq_zero (by simpa using hnl)
 refine ⟨.slice none 0 0, w, [], ?_, W0.nil _ _ _, hS⟩
 simp [Builtin.append_, run_underlying t.under, sizeOf, typeInfo, hi, Builtin.lenOf, Builtin.firstCells, loadCells, loadCellsFrom]
 have hr := run_append_nil (P := P) w T ty E info z t.under hi hz ⟨b2, o2, none⟩ ys.length cu news hnl hcell (by omega) (by simp only [length_nil] at hb; omega) (by simp only [length_nil, Nat.zero_add] at hbytes; omega)
 refine ⟨_, _, _, hr, .inr ⟨w.heap.size, grownCap w ys.length 0 E, _, by simp, ?_, ?_, ?_, U, ?_⟩, (hS.drew).alloc _⟩
 exact grownCap_ge w _ _ _
 exact grownCap_le_maxLen w _ _ _ (by simp only [maxLen, length_nil] at *; omega)
 have := grownCap_ge w ys.length 0 E
 rw [Array.size_append, size_zeroCells, t.zs, size_toArray, hnl, hsz, ← Nat.add_mul]
 congr 1; omega
 intro i x hx
 rw [nil_append] at hx
 obtain ⟨ecs, hr', hj⟩ := hnx i x hx
 refine ⟨ecs, hr', fun j hjs => ?_⟩
 rw [← hj j hjs]
 have hlt : i < ys.length := (List.getElem?_eq_some_iff.1 hx).1
 have : i * τ.size + j < news.length := by
  rw [hnl, hsz]
  calc i * τ.size + j < i * τ.size + τ.size := by omega
   _ = (i + 1) * τ.size := by rw [Nat.add_mul]; omega
   _ ≤ ys.length * τ.size := Nat.mul_le_mul_right _ hlt
 rw [Array.getElem?_append_left (by simpa using this)]; simp
 have hS' : St H w ((b, .cells cs E) :: L) := hS
 have hb := hS'.hd
 obtain ⟨olds, hol, ho1, hoc, hox⟩ := Xk9 (o := 0) (cs := cs) (fun i x hx => by
  obtain ⟨e, hr, hj⟩ := h5 i x hx
  exact ⟨e, hr, fun j hjs => by rw [Nat.zero_add]; exact hj j hjs⟩)
 have both : ∀ i x, (xs ++ ys)[i]? = some x → ∃ ecs, τ.rel H ecs x ∧ ∀ j, j < τ.size → (olds ++ news)[i * τ.size + j]? = ecs[j]? := by
  intro i x hx
  by_cases hlt : i < xs.length
  rw [getElem?_append_left hlt] at hx
  obtain ⟨e, hr, hj⟩ := hox i x hx
  refine ⟨e, hr, fun j hjs => ?_⟩
  rw [← hj j hjs, getElem?_append_left]
  rw [hol]
  calc i * τ.size + j < i * τ.size + τ.size := by omega
   _ = (i + 1) * τ.size := by rw [Nat.add_mul]; omega
   _ ≤ xs.length * τ.size := Nat.mul_le_mul_right _ hlt
  rw [getElem?_append_right (by omega)] at hx
  obtain ⟨e, hr, hj⟩ := hnx _ x hx
  refine ⟨e, hr, fun j hjs => ?_⟩
  have hmul : xs.length * τ.size ≤ i * τ.size := Nat.mul_le_mul_right _ (by omega)
  rw [← hj j hjs, getElem?_append_right (by rw [hol]; omega), hol]
  congr 1
  rw [Nat.sub_mul]; omega
 by_cases hroom : xs.length + ys.length ≤ c
 have hfit : xs.length * info.size + news.length ≤ cs.size := by rw [hnl, h3, ← Nat.add_mul, hsz]; exact Nat.mul_le_mul_right _ hroom
 have hr := run_append_room (P := P) w T ty E info t.under hi b xs.length c cs hb ⟨b2, o2, none⟩ ys.length cu news hnl hcell hn1 hroom hfit
 have hset : w.setRow b (cs.toList.take (xs.length * info.size) ++ news ++ cs.toList.drop (xs.length * info.size + news.length)).toArray =
  World.withBlk w b (.cells (cs.toList.take (xs.length * info.size) ++ news ++ cs.toList.drop (xs.length * info.size + news.length)).toArray E) := by
  unfold World.setRow World.withBlk
  congr 1
  apply Array.ext_getElem?
  intro k
  rw [Array.getElem?_modify, Array.getElem?_setIfInBounds]
  by_cases e : b = k
  subst e
  have := Zi0 hb
  rw [hb]; simp [this]
  simp [e]
 rw [hset] at hr
 refine ⟨_, _, _, hr, .inr ⟨b, c, _, by rw [length_append], by rw [length_append]; exact hroom, h2, ?_, U, ?_⟩, hS'.withBlk _⟩
 simp only [size_toArray, length_append, length_take, length_drop, Array.length_toList]
 rw [← h3]; omega
 have htake : cs.toList.take (xs.length * info.size) = olds := by
  apply ext_getElem?
  intro k
  rw [getElem?_take]
  split
  rename_i hk
  have hko : k < olds.length := by rw [hol, ← hsz]; exact hk
  have := hoc k olds[k] (by simp [hko])
  rw [Nat.zero_add] at this
  rw [Array.getElem?_toList, this]; simp [hko]
  rename_i hk
  rw [getElem?_eq_none]; rw [hol, ← hsz]; omega
 intro i x hx
 obtain ⟨e, hr', hj⟩ := both i x hx
 refine ⟨e, hr', fun j hjs => ?_⟩
 rw [← hj j hjs, htake]
 have hlt : i < (xs ++ ys).length := (List.getElem?_eq_some_iff.1 hx).1
 have : i * τ.size + j < (olds ++ news).length := by
  rw [length_append, hol, hnl, hsz, ← Nat.add_mul]
  calc i * τ.size + j < i * τ.size + τ.size := by omega
   _ = (i + 1) * τ.size := by rw [Nat.add_mul]; omega
   _ ≤ (xs.length + ys.length) * τ.size := Nat.mul_le_mul_right _ (by rw [length_append] at hlt; exact hlt)
 rw [getElem?_toArray, getElem?_append_left this]
 have holds : ∀ j u, olds[j]? = some u → w.cell? ((⟨b, 0, none⟩ : Addr).add j) = some u := fun j u hj => by
  rw [Q2, Yg2 hb]; have := hoc j u hj; exact this
 have hr := run_append_grow (P := P) w T ty E info z t.under hi hz ⟨b, 0, none⟩ xs.length c olds (by rw [hol, hsz]) holds ⟨b2, o2, none⟩ ys.length cu news hnl hcell (by omega) (by omega) (growslice_fits (by omega) hbytes)
 refine ⟨_, _, _, hr, .inr ⟨w.heap.size, grownCap w (xs.length + ys.length) c E, _, by rw [length_append], ?_, ?_, ?_, U, ?_⟩, (hS'.tl.drew).alloc _⟩
 rw [length_append]; exact grownCap_ge w _ _ _
 exact grownCap_le_maxLen w _ _ _ (by simp only [maxLen]; omega)
 have := grownCap_ge w (xs.length + ys.length) c E
 rw [Array.size_append, Array.size_append, size_zeroCells, t.zs, size_toArray, size_toArray, hnl, hol, hsz, ← Nat.add_mul, ← Nat.add_mul]
 congr 1; omega
 intro i x hx
 obtain ⟨e, hr', hj⟩ := both i x hx
 refine ⟨e, hr', fun j hjs => ?_⟩
 rw [← hj j hjs]
 have hlt : i < (xs ++ ys).length := (List.getElem?_eq_some_iff.1 hx).1
 have : i * τ.size + j < (olds ++ news).length := by
  rw [length_append, hol, hnl, hsz, ← Nat.add_mul]
  calc i * τ.size + j < i * τ.size + τ.size := by omega
   _ = (i + 1) * τ.size := by rw [Nat.add_mul]; omega
   _ ≤ (xs.length + ys.length) * τ.size := Nat.mul_le_mul_right _ (by rw [length_append] at hlt; exact hlt)
 rw [Array.getElem?_append_left (by simpa using this), append_toArray]; simp
end Go.Proofs.YtabofnehiclkiaaGreat
