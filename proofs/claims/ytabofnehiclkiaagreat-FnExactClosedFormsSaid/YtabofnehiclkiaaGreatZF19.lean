/- Walks of functions: each computes its pure function, if that gives a value. -/
import Derived.Test.YtabofnehiclkiaaGreatZF18
namespace Go.Proofs.YtabofnehiclkiaaGreat
open Go Go.Proofs.Tryz
set_option linter.unusedSimpArgs false
set_option linter.unusedVariables false
set_option maxRecDepth 100000
set_option maxHeartbeats 8000000
variable {K : Nat} {H : FH} {w : World} {L : OL} {s0 s1 s2 s3 s4 s5 s6 : Value}
theorem Ym2 {P : Program} (w : World) (t tx ty e : TypeId) (i : TypeInfo) (z : Value) (ht : P.underlying t = some (.slice e)) (hk : P.underlying tx = some (.int .i64)) (hi : P.info? e = some i) (hz : i.zero = some z) (hs : i.size = 1) (hb : i.bytes ≤ 128)
 (n : Nat) (h0 : 0 < n) (hn : n ≤ 1099511627776) :
 (Builtin.append_ #[t, tx] ty #[.slice none 0 0, .int .i64 n]).run P w =
  .ok (.slice (some ⟨w.heap.size, 0, none⟩) n (grownCap w n 0 e)) (w.drew.alloc (.cells (Builtin.zeroCells z.cells n ++ Builtin.zeroCells z.cells (grownCap w n 0 e - n)) e)) := by
 have hw : IntKind.i64.wrap (n : Int) = n := IntWalk.i64_in _ (by omega)
 have hm : n * i.bytes ≤ 140737488355328 := by
  calc n * i.bytes ≤ 1099511627776 * 128 := Nat.mul_le_mul hn hb
   _ = 140737488355328 := by decide
 have hm' : ¬ (281474976710656 < (n : Int) * (i.bytes : Int)) := by
  have : (n : Int) * (i.bytes : Int) = ((n * i.bytes : Nat) : Int) := by simp
  rw [this]; omega
 have h48' : ¬ (281474976710656 < Builtin.nextslicecap n 0 * i.bytes) := by rw [nextslicecap_zero h0]; omega
 have h1 : ¬ ((n : Int) < 0) := by omega
 have h2 : n ≠ 0 := by omega
 have h63 : ¬ (9223372036854775807 < (n : Int)) := by omega
 simp [Builtin.append_, run_underlying ht, run_underlying hk, sizeOf, typeInfo, zeroValue, hi, hz, hs, asInt, asIntOf, hw, hm', h48', h1, h2, h63, Question.forced, newRow, grownCap, Builtin.firstCells]
section
variable {n : Nat} {ops : Array Oper} {J : Fr → World → Prop} {r : List Oper} {f : Fr} {w : World} {d : Nat} {T : TypeId} {pos : String} {af : Array Edge} {H : FH} {L : OL}
theorem Wa3 {X E : TypeId} {x : Operand} {a : Option Addr} {m c s : Nat} (t : SlI prog X E s) (hx : ev f x = .slice a m c) (hn : Nat.blt d n = true)
 (K : X6 prog n ops J r (upd f d (.int .i64 c)) w) : X6 prog n ops J (⟨some d, .call ⟨.builtin .cap, #[x], #[X]⟩, T, pos, af, none⟩ :: r) f w :=
 V6 rfl rfl hn (by simp [execOp, resolve, invoke, builtin, Builtin.cap_, hx, t.under, goInt]) K
theorem We6 {X E : TypeId} {s : Nat} {x y : Operand} {k : IntKind} (t : SlI prog X E s) (hx : ev f x = .slice none 0 0) (hy : ev f y = .int k 0) (hn : Nat.blt d n = true)
 (K : X6 prog n ops J r (upd f d (.slice none 0 0)) w) : X6 prog n ops J (⟨some d, .slice X x none (some y) none, T, pos, af, none⟩ :: r) f w :=
 V6 rfl rfl hn (by simp [execOp, hx, hy, Instr.sliceAt, Instr.slice, Instr.sureAddr, Instr.sliceBounds, Instr.sliceBound, asIntOf, t.under, t.sizeOf]) K
theorem Xw0 {α : Type} {τ : Ty α} {x y : Operand} {m : Nat} (h1 : τ.size = 1) (hx : ev f x = .slice none 0 0) (hy : ev f y = vI m) (h0 : 0 < m) (hm : m ≤ 1099511627776) (hS : St H w L) (hn : Nat.blt d n = true)
 (K : ∀ b c w' C, X8 τ 2 H (.slice (some ⟨b, 0, none⟩) 0 c) [] C → St H w' (C ++ L) → X6 prog n ops J r (upd f d (.slice (some ⟨b, 0, none⟩) m c)) w') :
 X6 prog n ops J (⟨some d, .call ⟨.builtin .append, #[x, y], #[22, 3]⟩, T, pos, af, none⟩ :: r) f w := by
 obtain ⟨info, hi, hz, hsz, hby⟩ := Yb7.info
 have hr := Ym2 (P := prog) w 22 3 T 2 info _ Yb7.under underlying3 hi hz hsz (by omega) m h0 hm
 have hA : St H (w.drew.alloc (Obj.cells (Builtin.zeroCells (Value.int IntKind.i64 0).cells m ++ Builtin.zeroCells (Value.int IntKind.i64 0).cells (grownCap w m 0 2 - m)) 2)) ([(w.heap.size, Obj.cells (Builtin.zeroCells (Value.int IntKind.i64 0).cells m ++ Builtin.zeroCells (Value.int IntKind.i64 0).cells (grownCap w m 0 2 - m)) 2)] ++ L) := (hS.drew).alloc _
 generalize (w.drew.alloc (Obj.cells (Builtin.zeroCells (Value.int IntKind.i64 0).cells m ++ Builtin.zeroCells (Value.int IntKind.i64 0).cells (grownCap w m 0 2 - m)) 2)) = w' at hr hA
 refine V6 rfl rfl hn ?_ (K w.heap.size (grownCap w m 0 2) w' _ ?_ hA)
 simp only [execOp, resolve, invoke, builtin, Sem.run_bind, Sem.run_pure, Result.andThen_ok, List.map_toArray, List.map_cons, List.map_nil, hx, hy, hr]
 have hg := grownCap_ge w m 0 2
 refine .inr ⟨_, grownCap w m 0 2, _, rfl, by simp, grownCap_le_maxLen w _ _ _ (by simp only [maxLen]; omega), ?_, rfl, by simp⟩
 rw [Array.size_append, size_zeroCells, size_zeroCells, h1]
 show m * 1 + (grownCap w m 0 2 - m) * 1 = grownCap w m 0 2 * 1
 omega
end
theorem Wq0 {α : Type} {τ : Ty α} (h1 : τ.size = 1) {m : Nat} (hm : m ≤ 1099511627776) {H : FH} {w : World} {L : OL} (hS : St H w L) :
 Calls prog 256 #[.slice none 0 0, vI m] w (Yf9 τ 2 [] H L) := by
 refine X0 func256 rfl ntmps256 rfl ?_
 repeat refine Z1 ?_
 refine Z0 (Z5 (vN) rfl rfl (Z2 ?_))
 repeat refine Z1 ?_
 refine Z0 (Z3 (vI m) rfl rfl ?_)
 refine W8 (k := .i64) (a := m) (b := 0) rfl rfl rfl (Z2 ?_)
 repeat refine Z1 ?_
 refine Z7 (bF (by omega) rfl) (Y6 ?_)
 repeat refine Z1 ?_
 refine Z0 (Z3 (vI m) rfl rfl (Z3 (.slice none 0 0) rfl rfl ?_))
 refine Wa3 U5 (a := none) (m := 0) (c := 0) rfl rfl (Z3 (.slice none 0 0) rfl rfl ?_)
 refine Zo2 U5 (a := none) (m := 0) (c := 0) rfl rfl ?_
 refine Zk8 0 rfl rfl rfl rfl ?_
 refine Zk8 (m : Int) rfl rfl (by rw [Int.sub_zero]; exact IntWalk.i64_in _ (by omega)) rfl ?_
 refine Z5 (vI m) rfl rfl (Z2 ?_)
 repeat refine Z1 ?_
 refine Z0 (Z3 (vI m) rfl rfl ?_)
 refine Za9 (k := .i64) (a := m) (b := 0) rfl rfl rfl (Z2 ?_)
 repeat refine Z1 ?_
 by_cases h0 : (0 : Int) < (m : Int)
 refine Z8 (bT h0 rfl) ?_
 repeat refine Z1 ?_
 refine Z0 (Z3 (.slice none 0 0) rfl rfl (Z3 (.slice none 0 0) rfl rfl ?_))
 refine Wa3 U5 (a := none) (m := 0) (c := 0) rfl rfl ?_
 refine We6 U5 rfl rfl rfl (Z3 (vI m) rfl rfl ?_)
 refine Xw0 h1 rfl rfl (by omega) hm hS rfl ?_
 intro b c w' C ho hS
 refine Z3 (.slice none 0 0) rfl rfl ?_
 refine Zo2 U5 (a := none) (m := 0) (c := 0) rfl rfl ?_
 refine Yu7 U5 (j := 0) (k := .i64) rfl rfl (by omega) rfl ?_
 refine Z5 _ rfl rfl (Z2 ?_)
 repeat refine Z1 ?_
 refine Z0 (Z3 (.slice (some ⟨b, 0, none⟩) 0 c) rfl rfl (Z5 (.slice (some ⟨b, 0, none⟩) 0 c) rfl rfl (Z2 ?_)))
 exact Y9 (vs := [.slice (some ⟨b, 0, none⟩) 0 c]) func256 ⟨rfl, trivial⟩ ⟨_, _, _, rfl, .refl _, hS, ho⟩
 refine Z7 (bF h0 rfl) (Y6 ?_)
 repeat refine Z1 ?_
 refine Z0 (Z3 (.slice none 0 0) rfl rfl (Z5 (.slice none 0 0) rfl rfl (Z2 ?_)))
 exact Y9 (vs := [.slice none 0 0]) func256 ⟨rfl, trivial⟩ ⟨_, H, [], rfl, .refl _, hS, X8.nil _ _ _⟩
end Go.Proofs.YtabofnehiclkiaaGreat
