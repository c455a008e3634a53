/- Walks of functions: each computes its pure function, if that gives a value. -/
import Derived.Test.YtabofnehiclkiaaGreatZF21
namespace Go.Proofs.YtabofnehiclkiaaGreat
open Go Go.Proofs.Tryz
set_option linter.unusedSimpArgs false
set_option linter.unusedVariables false
set_option maxRecDepth 100000
set_option maxHeartbeats 8000000
variable {K : Nat} {H : FH} {w : World} {L : OL} {s0 s1 s2 s3 s4 s5 s6 : Value}
theorem Yd8 : Zk9 prog 102 0 0 := ⟨fun b o w => by simp [Instr.fieldAt, Instr.sureAddr, fieldPlace, runUnderlying102, sizeOf98, R7]⟩
theorem Xu3 : Zk9 prog 102 1 1 := ⟨fun b o w => by simp [Instr.fieldAt, Instr.sureAddr, fieldPlace, runUnderlying102, sizeOf98, sizeOf99, R7]⟩
theorem Ye4 : Zk9 prog 102 2 2 := ⟨fun b o w => by simp [Instr.fieldAt, Instr.sureAddr, fieldPlace, runUnderlying102, sizeOf98, sizeOf99, sizeOf100, R7]⟩
theorem Yq8 : Zk9 prog 102 3 3 := ⟨fun b o w => by simp [Instr.fieldAt, Instr.sureAddr, fieldPlace, runUnderlying102, sizeOf98, sizeOf99, sizeOf100, R7]⟩
theorem Xs1 : Zk9 prog 102 4 4 := ⟨fun b o w => by simp [Instr.fieldAt, Instr.sureAddr, fieldPlace, runUnderlying102, sizeOf98, sizeOf99, sizeOf100, R7]⟩
theorem Wu2 : Zk9 prog 102 5 5 := ⟨fun b o w => by simp [Instr.fieldAt, Instr.sureAddr, fieldPlace, runUnderlying102, sizeOf98, sizeOf99, sizeOf100, R7]⟩
theorem Xd4 : Zk9 prog 187 0 0 := ⟨fun b o w => by simp [Instr.fieldAt, Instr.sureAddr, fieldPlace, runUnderlying187, sizeOf94, R7]⟩
theorem Xe3 : Zk9 prog 187 1 1 := ⟨fun b o w => by simp [Instr.fieldAt, Instr.sureAddr, fieldPlace, runUnderlying187, sizeOf94, sizeOf185, R7]⟩
theorem Wd1 : Zk9 prog 31 0 0 := ⟨fun b o w => by simp [Instr.fieldAt, Instr.sureAddr, fieldPlace, runUnderlying31, sizeOf22, R7]⟩
theorem Yx7 : TyI prog 98 false 1 := ⟨isAgg98, sizeOf98⟩
theorem Ww2 : TyI prog 99 false 1 := ⟨isAgg99, sizeOf99⟩
theorem Zr5 : TyI prog 100 false 1 := ⟨isAgg100, sizeOf100⟩
theorem Xv1 : TyI prog 185 false 1 := ⟨isAgg185, sizeOf185⟩
theorem We8 : TyI prog 94 false 1 := ⟨isAgg94, sizeOf94⟩
theorem Ww5 : Ya4 prog 99 222 3 .i64 := Ww9 underlying99 underlying222 underlying3 Tryz.info3_ rfl zeroValue3
abbrev AlX := List Int × List MpT
abbrev Yx6 : Ty AlX := Yh5 (X2 (Y5 .i64)) (X2 (X2 yT))
structure Lvl where
 n : Int
 b : Nat
 v0 : Value
 v1 : Value
 c2 : Value
 c3 : Value
 c4 : Value
 c5 : Value
def Lvl.cs (s : Lvl) : Array Value := #[s.v0, s.v1, s.c2, s.c3, s.c4, s.c5]
def Lvl.chunk (s : Lvl) : Nat × Obj := (s.b, .cells s.cs 102)
def Cx (H : FH) (p : Value) (x : AlX) (S : List Lvl) (C : OL) : Prop :=
 ∃ bp bm ap es clk, p = vP bp ∧ H bp = some (.cells #[ap, .map (some bm)] 187) ∧ Zs8 Yx6 H ap x ∧ C = (bm, .map es clk) :: S.map Lvl.chunk ∧ es.toList.map (fun e => (e.key, e.val)) = S.map (fun (s : Lvl) => (vI s.n, vP s.b))
theorem Cx.mono {H H' : FH} {p : Value} {x : AlX} {S : List Lvl} {C : OL} (h : Cx H p x S C) (hs : Sub H H') : Cx H' p x S C := by
 obtain ⟨bp, bm, ap, es, clk, h1, h2, h3, h4, h5⟩ := h
 exact ⟨bp, bm, ap, es, clk, h1, hs.1 _ _ h2, h3.mono hs, h4, h5⟩
theorem Xj5 (n : Int) : ∀ (es : List MapEntry) (S : List Lvl) (i : Nat), es.map (fun e => (e.key, e.val)) = S.map (fun (s : Lvl) => (vI s.n, vP s.b)) →
 (∃ j s, S[j]? = some s ∧ s.n = n ∧ Instr.findNow (.int .i64) (vI n) es i = some (some (i + j, vP s.b))) ∨ ((∀ s, s ∈ S → s.n ≠ n) ∧ Instr.findNow (.int .i64) (vI n) es i = some none)
 | [], S, i, h => by
  cases S with
  | nil => exact .inr ⟨fun s hs => by simp at hs, rfl⟩
  | cons s S => simp at h
 | e :: es, S, i, h => by
  cases S with
  | nil => simp at h
  | cons s S =>
   simp only [List.map_cons, List.cons.injEq, Prod.mk.injEq] at h
   obtain ⟨⟨hk, hv⟩, ht⟩ := h
   by_cases he : n = s.n
   refine .inl ⟨0, s, rfl, he.symm, ?_⟩
   unfold Instr.findNow
   rw [hk, hv]
   simp [Instr.sameNow, he]
   have hstep : Instr.findNow (.int .i64) (vI n) (e :: es) i = Instr.findNow (.int .i64) (vI n) es (i + 1) := by
    conv => lhs; unfold Instr.findNow
    rw [hk]
    have hb : (n == s.n) = false := by simp [he]
    simp [Instr.sameNow, hb]
   rcases Xj5 n es S (i + 1) ht with ⟨j, s', h1, h2, h3⟩ | ⟨h1, h2⟩
   exact .inl ⟨j + 1, s', h1, h2, by rw [hstep, h3]; congr 2; congr 1; omega⟩
   exact .inr ⟨fun s' hs' => by
    rcases List.mem_cons.1 hs' with rfl | h
    exact fun e => he e.symm
    exact h1 s' h, by rw [hstep, h2]⟩
section
variable {n : Nat} {ops : Array Oper} {J : Fr → World → Prop} {r : List Oper} {f : Fr} {w : World} {d : Nat} {T : TypeId} {pos : String} {af : Array Edge} {H : FH} {L : OL} {S : List Lvl}
theorem Xs0 {m : Int} {bm : Nat} {es : Array MapEntry} {clk : Nat} (hw : w.heap[bm]? = some (.map es clk)) (hes : es.toList.map (fun e => (e.key, e.val)) = S.map (fun (s : Lvl) => (vI s.n, vP s.b))) :
 (∃ (j : Nat) (s : Lvl), S[j]? = some s ∧ s.n = m ∧ (Instr.lookup 185 (.map (some bm)) (vI m) true).run prog w = .ok (.tuple #[vP s.b, vB true]) w) ∨
 ((∀ s, s ∈ S → s.n ≠ m) ∧ (Instr.lookup 185 (.map (some bm)) (vI m) true).run prog w = .ok (.tuple #[.pointer none, vB false]) w) := by
 have hck : ∀ b, (Instr.checkKey b 10000 2 (vI m)).run prog w = .ok () w := fun b => Yb2 underlying2 b 9999 m
 rcases Xj5 m es.toList S 0 hes with ⟨j, s, h1, h2, h3⟩ | ⟨h1, h2⟩
 refine .inl ⟨j, s, h1, h2, ?_⟩
 unfold Instr.lookup
 simp only [Sem.run_bind, runUnderlying185, Result.andThen_ok, Sem.run_pure, Ze7 hw, hck, Instr.findKey, runUnderlying2, h3]
 simp
 refine .inr ⟨h1, ?_⟩
 unfold Instr.lookup
 simp only [Sem.run_bind, runUnderlying185, Result.andThen_ok, Sem.run_pure, Ze7 hw, hck, Instr.findKey, runUnderlying2, h2, zeroValue103]
 simp
theorem Xr0 {m : Int} {bm : Nat} {u : Value} {es : Array MapEntry} {clk : Nat} (hw : w.heap[bm]? = some (.map es clk)) (hes : es.toList.map (fun e => (e.key, e.val)) = S.map (fun (s : Lvl) => (vI s.n, vP s.b))) (hn : ∀ s, s ∈ S → s.n ≠ m) :
 (Instr.mapUpdate 185 (.map (some bm)) (vI m) u).run prog w = .ok () { w with heap := w.heap.setIfInBounds bm (.map (es.push { key := vI m, val := u, born := clk }) (clk + 1)) } := by
 have hck : ∀ b, (Instr.checkKey b 10000 2 (vI m)).run prog w = .ok () w := fun b => Yb2 underlying2 b 9999 m
 rcases Xj5 m es.toList S 0 hes with ⟨j, s, h1, h2, h3⟩ | ⟨h1, h2⟩
 exact absurd h2 (hn s (List.mem_of_getElem? h1))
 unfold Instr.mapUpdate
 simp only [Sem.run_bind, runUnderlying185, Result.andThen_ok, Sem.run_pure, Ze7 hw, hck, Instr.findKey, runUnderlying2, h2]
 simp [setObj, Sem.run, hw]
theorem Xf4 {x y : Operand} {m : Int} {bm : Nat} {es : Array MapEntry} {clk : Nat} (hx : ev f x = .map (some bm)) (hy : ev f y = vI m) (hw : w.heap[bm]? = some (.map es clk)) (hes : es.toList.map (fun e => (e.key, e.val)) = S.map (fun (s : Lvl) => (vI s.n, vP s.b))) (hn : Nat.blt d n = true)
 (K1 : ∀ (j : Nat) (s : Lvl), S[j]? = some s → s.n = m → X6 prog n ops J r (upd f d (.tuple #[vP s.b, vB true])) w)
 (K2 : (∀ s, s ∈ S → s.n ≠ m) → X6 prog n ops J r (upd f d (.tuple #[.pointer none, vB false])) w) : X6 prog n ops J (⟨some d, .lookup 185 x y true, T, pos, af, none⟩ :: r) f w := by
 rcases Xs0 (m := m) hw hes with ⟨j, s, h1, h2, h3⟩ | ⟨h1, h2⟩
 refine V6 rfl rfl hn ?_ (K1 j s h1 h2)
 simp only [execOp, hx, hy, Sem.run_bind]
 rw [h3]; rfl
 refine V6 rfl rfl hn ?_ (K2 h1)
 simp only [execOp, hx, hy, Sem.run_bind]
 rw [h2]; rfl
theorem Wh7 {x y z : Operand} {m : Int} {bm : Nat} {u : Value} {es : Array MapEntry} {clk : Nat} (hx : ev f x = .map (some bm)) (hy : ev f y = vI m) (hz : ev f z = u) (hS : St H w ((bm, .map es clk) :: L)) (hes : es.toList.map (fun e => (e.key, e.val)) = S.map (fun (s : Lvl) => (vI s.n, vP s.b))) (hn : ∀ s, s ∈ S → s.n ≠ m)
 (K : ∀ w', St H w' ((bm, .map (es.push { key := vI m, val := u, born := clk }) (clk + 1)) :: L) → X6 prog n ops J r f w') : X6 prog n ops J (⟨none, .mapUpdate 185 x y z, T, pos, af, none⟩ :: r) f w := by
 refine Yk3 rfl rfl (w' := _) ?_ (K _ (hS.put _))
 simp only [execOp, hx, hy, hz, Sem.run_bind]
 rw [Xr0 hS.hd hes hn]; rfl
end
def Zm9 (K : Nat) (a0 : ((List Int) × (List MpT))) (a1 : Int) : Option (List (List Int)) := ((Zm6 K (a0.1, a0.2) a1).bind fun a6 => ((P7 K a0.1 (IntKind.i64.wrap (a1 + 1))).bind fun a5 => ((Zl5 K a6 (a5.length : Int)).bind fun a4 => some a4)))
theorem Yt5 {a0 : ((List Int) × (List MpT))} {a1 : Int} {r : (List (List Int))} (q0 : Zm9 K a0 a1 = some r) (a3 : Y3 (Y5 .i64) H s0 a0.1) (a7 : Y3 (X2 yT) H s1 a0.2) (hS : St H w L) :
 Calls prog 103 #[vA ([s0] ++ [s1]), vI a1] w (U7 (fun v G => (R.sl (X2 (Y5 .i64))).p G v r) H L) := by
 have Z4 := Sub.refl H
 refine X0 func103 rfl ntmps103 rfl ?_
 unfold Zm9 at q0
 refine Z1 (Z0 ?_)
 refine T7 (v := vA ([s0] ++ [s1])) ([s0] ++ [s1]).toArray rfl rfl hS rfl ?_
 intro b1 _ hS
 refine Z5 (vN) rfl rfl (Z2 (Z1 ?_))
 obtain ⟨a6, c2, q0⟩ := bind_some q0
 obtain ⟨a5, c3, q0⟩ := bind_some q0
 obtain ⟨a4, b3, q0⟩ := bind_some q0
 refine W7 11 (S9 [mE 5 (vA ([s0] ++ [s1])), mE 6 (vI a1), (7, MP.rep (R.sl (X2 (Y5 .i64))) (a6)), mE 8 (vP b1), mE 9 (s0), mE 10 (vI a1), mE 11 (vI (IntKind.i64.wrap (a1 + 1))), (12, MP.rep (R.sl (Q9 .u8)) (a5)), mE 13 (vI (a5.length : Int)), (14, MP.rep (R.sl (X2 (Y5 .i64))) (a4)), (4, MP.sl (X2 (Y5 .i64)) (a4))]) [] mixed rfl rfl rfl hS (V9 ?_ ?_ ?_ ?_ ?_ ?_ ?_ ?_ (J2 ?_ ?_ (E8 ?_ V1))) ?_
 exact X4 fun S B => W3 Ya1 (evT (B 2 rfl) rfl) (S.get (mR mL)) rfl rfl (qz S)
 exact X4 fun S B => Z3 (vI a1) (evT (B 1 rfl) rfl) rfl (qz S)
 intro _ _ _ _ a8 hS _ a9 hcq
 have a3 := a3.mono a8
 have a7 := a7.mono a8
 refine X3 call170 (V2 (eM (a9 0 5 rfl rfl)) (eM (a9 1 6 rfl rfl))) rfl (Yt0 c2 a3 a7 hS) ?_
 rintro _ _ _ c4 hS c5
 exact qn c4 rfl hS c5
 exact X4 fun S B => Y2 L6 (evT (B 2 rfl) rfl) rfl (qz S)
 exact Y7 fun S V => Y0 (s0) P4 (eM (V 3 8 rfl rfl)) (S.get (mR mL)) rfl rfl (qz S)
 exact X4 fun S B => Z3 (vI a1) (evT (B 1 rfl) rfl) rfl (qz S)
 exact Y7 fun S V => W2 (IntKind.i64.wrap (a1 + 1)) (eM (V 5 10 rfl rfl)) rfl rfl rfl (qz S)
 intro _ _ _ _ c6 hS _ b0 hcq
 have a3 := a3.mono c6
 refine X3 call99 (V2 (eM (b0 4 9 rfl rfl)) (eM (b0 6 11 rfl rfl))) rfl (Zc6 c3 a3 hS) ?_
 rintro _ _ _ c7 hS c8
 exact qn c7 rfl hS c8
 intro _ _ _ _ _ hS _ c9 hcq
 obtain ⟨_, d8, d0⟩ := gvR (c9 7 12 rfl rfl)
 refine X9 Yb1 d8 d0 rfl ?_
 exact qn (.refl _) rfl hS rfl
 intro _ _ _ _ _ hS _ b2 hcq
 obtain ⟨_, d1, b4⟩ := gvR (b2 2 7 rfl rfl)
 refine X3 call176 (V2 d1 (eM (b2 8 13 rfl rfl))) rfl (Yt6 b3 b4 hS) ?_
 rintro _ _ _ b5 hS b6
 exact qn b5 rfl hS b6
 intro _ _ _ _ _ hS _ b7 hcq
 obtain ⟨d2, d3, b8⟩ := gvR (b7 9 14 rfl rfl)
 refine Z5 (d2) d3 rfl ?_
 exact qn (.refl _) rfl hS b8
 intro _ d4 d5 b9 hS _ c0 hcq
 have hS : St d5 d4 ([(b1, cA ([s0] ++ [s1]) 31)] ++ L) := hS
 have Z4 := Z4.trans b9
 obtain ⟨d6, d7, c1⟩ := gvS (c0 10 4 (by decide) rfl)
 refine Z2 ?_
 refine Y9 (vs := [d6]) func103 ⟨(by exact d7), trivial⟩ ?_
 obtain rfl := oi q0
 exact ⟨_, _, rfl, Z4, (St.dropA hS), c1⟩
end Go.Proofs.YtabofnehiclkiaaGreat
