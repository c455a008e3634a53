/- Walks of functions: each computes its pure function, if that gives a value. -/
import Derived.Test.YtabofnehiclkiaaGreatYF21
namespace Go.Proofs.YtabofnehiclkiaaGreat
open Go
set_option linter.unusedSimpArgs false
set_option linter.unusedVariables false
variable {K : Nat} {H : FH} {w : World} {L : OL} {s0 s1 s2 s3 s4 s5 s6 : Value}
theorem Yd1 : Zj9 Tryz.prog 102 0 0 := ⟨fun b o w => by simp [Instr.fieldAt, Instr.sureAddr, fieldPlace, Tryz.runUnderlying102, Tryz.sizeOf98, Q3]⟩
theorem Xu2 : Zj9 Tryz.prog 102 1 1 := ⟨fun b o w => by simp [Instr.fieldAt, Instr.sureAddr, fieldPlace, Tryz.runUnderlying102, Tryz.sizeOf98, Tryz.sizeOf99, Q3]⟩
theorem Yc2 : Zj9 Tryz.prog 102 2 2 := ⟨fun b o w => by simp [Instr.fieldAt, Instr.sureAddr, fieldPlace, Tryz.runUnderlying102, Tryz.sizeOf98, Tryz.sizeOf99, Tryz.sizeOf100, Q3]⟩
theorem Xa9 : Zj9 Tryz.prog 102 3 3 := ⟨fun b o w => by simp [Instr.fieldAt, Instr.sureAddr, fieldPlace, Tryz.runUnderlying102, Tryz.sizeOf98, Tryz.sizeOf99, Tryz.sizeOf100, Q3]⟩
theorem Xb3 : Zj9 Tryz.prog 102 4 4 := ⟨fun b o w => by simp [Instr.fieldAt, Instr.sureAddr, fieldPlace, Tryz.runUnderlying102, Tryz.sizeOf98, Tryz.sizeOf99, Tryz.sizeOf100, Q3]⟩
theorem Ws2 : Zj9 Tryz.prog 102 5 5 := ⟨fun b o w => by simp [Instr.fieldAt, Instr.sureAddr, fieldPlace, Tryz.runUnderlying102, Tryz.sizeOf98, Tryz.sizeOf99, Tryz.sizeOf100, Q3]⟩
theorem Xb8 : Zj9 Tryz.prog 187 0 0 := ⟨fun b o w => by simp [Instr.fieldAt, Instr.sureAddr, fieldPlace, Tryz.runUnderlying187, Tryz.sizeOf94, Q3]⟩
theorem Xc0 : Zj9 Tryz.prog 187 1 1 := ⟨fun b o w => by simp [Instr.fieldAt, Instr.sureAddr, fieldPlace, Tryz.runUnderlying187, Tryz.sizeOf94, Tryz.sizeOf185, Q3]⟩
theorem Wb3 : Zj9 Tryz.prog 31 0 0 := ⟨fun b o w => by simp [Instr.fieldAt, Instr.sureAddr, fieldPlace, Tryz.runUnderlying31, Tryz.sizeOf22, Q3]⟩
theorem Yv9 : TyI Tryz.prog 98 false 1 := ⟨Tryz.isAgg98, Tryz.sizeOf98⟩
theorem Wv2 : TyI Tryz.prog 99 false 1 := ⟨Tryz.isAgg99, Tryz.sizeOf99⟩
theorem Zp9 : TyI Tryz.prog 100 false 1 := ⟨Tryz.isAgg100, Tryz.sizeOf100⟩
theorem Xv5 : TyI Tryz.prog 185 false 1 := ⟨Tryz.isAgg185, Tryz.sizeOf185⟩
theorem Wd7 : TyI Tryz.prog 94 false 1 := ⟨Tryz.isAgg94, Tryz.sizeOf94⟩
theorem Wu5 : Zy9 Tryz.prog 99 222 3 .i64 := Wt8 Tryz.underlying99 Tryz.underlying222 Tryz.underlying3 Tryz.info3_ rfl Tryz.zeroValue3
abbrev AlX := List Int × List MpT
abbrev Yw6 : Ty AlX := Yf7 (X4 (Y9 .i64)) (X4 (X4 yT))
/-- a level in memory -/
structure Lvl where
 n : Int
 b : Nat
 v0 : Value
 v1 : Value
 c2 : Value
 c3 : Value
 c4 : Value
 c5 : Value
def Lvl.cs (s : Lvl) : Array Value := #[s.v0, s.v1, s.c2, s.c3, s.c4, s.c5]
def Lvl.chunk (s : Lvl) : Nat × Obj := (s.b, .cells s.cs 102)
/-- the complex p of the algebra x with the levels S -/
def Cx (H : FH) (p : Value) (x : AlX) (S : List Lvl) (C : OL) : Prop :=
 ∃ bp bm ap es clk, p = vP bp ∧ H bp = some (.cells #[ap, .map (some bm)] 187) ∧ Zs0 Yw6 H ap x ∧ C = (bm, .map es clk) :: S.map Lvl.chunk ∧ es.toList.map (fun e => (e.key, e.val)) = S.map (fun (s : Lvl) => (vI s.n, vP s.b))
theorem Cx.mono {H H' : FH} {p : Value} {x : AlX} {S : List Lvl} {C : OL} (h : Cx H p x S C) (hs : Sub H H') : Cx H' p x S C := by
 obtain ⟨bp, bm, ap, es, clk, h1, h2, h3, h4, h5⟩ := h
 exact ⟨bp, bm, ap, es, clk, h1, hs.1 _ _ h2, h3.mono hs, h4, h5⟩
theorem Xj5 (n : Int) : ∀ (es : List MapEntry) (S : List Lvl) (i : Nat), es.map (fun e => (e.key, e.val)) = S.map (fun (s : Lvl) => (vI s.n, vP s.b)) →
 (∃ j s, S[j]? = some s ∧ s.n = n ∧ Instr.findNow (.int .i64) (vI n) es i = some (some (i + j, vP s.b))) ∨ ((∀ s, s ∈ S → s.n ≠ n) ∧ Instr.findNow (.int .i64) (vI n) es i = some none)
 | [], S, i, h => by
  cases S with
  | nil => exact .inr ⟨fun s hs => by simp at hs, rfl⟩
  | cons s S => simp at h
 | e :: es, S, i, h => by
  cases S with
  | nil => simp at h
  | cons s S =>
   simp only [List.map_cons, List.cons.injEq, Prod.mk.injEq] at h
   obtain ⟨⟨hk, hv⟩, ht⟩ := h
   by_cases he : n = s.n
   refine .inl ⟨0, s, rfl, he.symm, ?_⟩
   unfold Instr.findNow
   rw [hk, hv]
   simp [Instr.sameNow, he]
   have hstep : Instr.findNow (.int .i64) (vI n) (e :: es) i = Instr.findNow (.int .i64) (vI n) es (i + 1) := by
    conv => lhs; unfold Instr.findNow
    rw [hk]
    have hb : (n == s.n) = false := by simp [he]
    simp [Instr.sameNow, hb]
   rcases Xj5 n es S (i + 1) ht with ⟨j, s', h1, h2, h3⟩ | ⟨h1, h2⟩
   exact .inl ⟨j + 1, s', h1, h2, by rw [hstep, h3]; congr 2; congr 1; omega⟩
   exact .inr ⟨fun s' hs' => by
    rcases List.mem_cons.1 hs' with rfl | h
    exact fun e => he e.symm
    exact h1 s' h, by rw [hstep, h2]⟩
section
variable {n : Nat} {ops : Array Oper} {J : Fr → World → Prop} {r : List Oper} {f : Fr} {w : World} {d : Nat} {T : TypeId} {pos : String} {af : Array Edge} {H : FH} {L : OL} {S : List Lvl}
theorem Xr5 {m : Int} {bm : Nat} {es : Array MapEntry} {clk : Nat} (hw : w.heap[bm]? = some (.map es clk)) (hes : es.toList.map (fun e => (e.key, e.val)) = S.map (fun (s : Lvl) => (vI s.n, vP s.b))) :
 (∃ (j : Nat) (s : Lvl), S[j]? = some s ∧ s.n = m ∧ (Instr.lookup 185 (.map (some bm)) (vI m) true).run Tryz.prog w = .ok (.tuple #[vP s.b, vB true]) w) ∨
 ((∀ s, s ∈ S → s.n ≠ m) ∧ (Instr.lookup 185 (.map (some bm)) (vI m) true).run Tryz.prog w = .ok (.tuple #[.pointer none, vB false]) w) := by
 have hck : ∀ b, (Instr.checkKey b 10000 2 (vI m)).run Tryz.prog w = .ok () w := fun b => Ya1 Tryz.underlying2 b 9999 m
 rcases Xj5 m es.toList S 0 hes with ⟨j, s, h1, h2, h3⟩ | ⟨h1, h2⟩
 refine .inl ⟨j, s, h1, h2, ?_⟩
 unfold Instr.lookup
 simp only [Sem.run_bind, Tryz.runUnderlying185, Result.andThen_ok, Sem.run_pure, Ze2 hw, hck, Instr.findKey, Tryz.runUnderlying2, h3]
 simp
 refine .inr ⟨h1, ?_⟩
 unfold Instr.lookup
 simp only [Sem.run_bind, Tryz.runUnderlying185, Result.andThen_ok, Sem.run_pure, Ze2 hw, hck, Instr.findKey, Tryz.runUnderlying2, h2, Tryz.zeroValue103]
 simp
theorem Xv2 {m : Int} {bm : Nat} {u : Value} {es : Array MapEntry} {clk : Nat} (hw : w.heap[bm]? = some (.map es clk)) (hes : es.toList.map (fun e => (e.key, e.val)) = S.map (fun (s : Lvl) => (vI s.n, vP s.b))) (hn : ∀ s, s ∈ S → s.n ≠ m) :
 (Instr.mapUpdate 185 (.map (some bm)) (vI m) u).run Tryz.prog w = .ok () { w with heap := w.heap.setIfInBounds bm (.map (es.push { key := vI m, val := u, born := clk }) (clk + 1)) } := by
 have hck : ∀ b, (Instr.checkKey b 10000 2 (vI m)).run Tryz.prog w = .ok () w := fun b => Ya1 Tryz.underlying2 b 9999 m
 rcases Xj5 m es.toList S 0 hes with ⟨j, s, h1, h2, h3⟩ | ⟨h1, h2⟩
 exact absurd h2 (hn s (List.mem_of_getElem? h1))
 unfold Instr.mapUpdate
 simp only [Sem.run_bind, Tryz.runUnderlying185, Result.andThen_ok, Sem.run_pure, Ze2 hw, hck, Instr.findKey, Tryz.runUnderlying2, h2]
 simp [setObj, Sem.run, hw]
theorem Xh4 {x y : Operand} {m : Int} {bm : Nat} {es : Array MapEntry} {clk : Nat} (hx : ev f x = .map (some bm)) (hy : ev f y = vI m) (hw : w.heap[bm]? = some (.map es clk)) (hes : es.toList.map (fun e => (e.key, e.val)) = S.map (fun (s : Lvl) => (vI s.n, vP s.b))) (hn : Nat.blt d n = true)
 (K1 : ∀ (j : Nat) (s : Lvl), S[j]? = some s → s.n = m → X7 Tryz.prog n ops J r (upd f d (.tuple #[vP s.b, vB true])) w)
 (K2 : (∀ s, s ∈ S → s.n ≠ m) → X7 Tryz.prog n ops J r (upd f d (.tuple #[.pointer none, vB false])) w) : X7 Tryz.prog n ops J (⟨some d, .lookup 185 x y true, T, pos, af, none⟩ :: r) f w := by
 rcases Xr5 (m := m) hw hes with ⟨j, s, h1, h2, h3⟩ | ⟨h1, h2⟩
 refine V9 rfl rfl hn ?_ (K1 j s h1 h2)
 simp only [execOp, hx, hy, Sem.run_bind]
 rw [h3]; rfl
 refine V9 rfl rfl hn ?_ (K2 h1)
 simp only [execOp, hx, hy, Sem.run_bind]
 rw [h2]; rfl
theorem Wg4 {x y z : Operand} {m : Int} {bm : Nat} {u : Value} {es : Array MapEntry} {clk : Nat} (hx : ev f x = .map (some bm)) (hy : ev f y = vI m) (hz : ev f z = u) (hS : St H w ((bm, .map es clk) :: L)) (hes : es.toList.map (fun e => (e.key, e.val)) = S.map (fun (s : Lvl) => (vI s.n, vP s.b))) (hn : ∀ s, s ∈ S → s.n ≠ m)
 (K : ∀ w', St H w' ((bm, .map (es.push { key := vI m, val := u, born := clk }) (clk + 1)) :: L) → X7 Tryz.prog n ops J r f w') : X7 Tryz.prog n ops J (⟨none, .mapUpdate 185 x y z, T, pos, af, none⟩ :: r) f w := by
 refine Yh9 rfl rfl (w' := _) ?_ (K _ (hS.put _))
 simp only [execOp, hx, hy, hz, Sem.run_bind]
 rw [Xv2 hS.hd hes hn]; rfl
end
end Go.Proofs.YtabofnehiclkiaaGreat
