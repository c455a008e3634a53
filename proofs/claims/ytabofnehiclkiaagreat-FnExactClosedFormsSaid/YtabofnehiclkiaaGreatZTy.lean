/- Facts on the types of this program. -/
import Derived.KernelRfl
import Derived.Test.YtabofnehiclkiaaGreatProg
import Derived.Test.YtabofnehiclkiaaGreatZS3
namespace Go.Proofs.YtabofnehiclkiaaGreat
open Go Go.Proofs.Tryz
set_option linter.unusedSimpArgs false
set_option linter.unusedVariables false
theorem mixed : prog.follows .mixedOrders = true := by kernel_rfl
theorem Tryz.info222_ : prog.info? 222 = some Tryz.t222 := by kernel_rfl
theorem Tryz.info22_ : prog.info? 22 = some Tryz.t22 := by kernel_rfl
theorem Tryz.info2_ : prog.info? 2 = some Tryz.t2 := by kernel_rfl
theorem Tryz.info3_ : prog.info? 3 = some Tryz.t3 := by kernel_rfl
theorem Tryz.info45_ : prog.info? 45 = some Tryz.t45 := by kernel_rfl
theorem Tryz.info5_ : prog.info? 5 = some Tryz.t5 := by kernel_rfl
theorem Tryz.info72_ : prog.info? 72 = some Tryz.t72 := by kernel_rfl
theorem Tryz.info78_ : prog.info? 78 = some Tryz.t78 := by kernel_rfl
theorem Yb5 : ApI prog 100 22 1 24 (Value.slice none 0 0) := ⟨underlying100, ⟨_, Tryz.info22_, rfl, rfl, rfl⟩, rfl, by decide, by decide⟩
theorem Yb7 : ApI prog 22 2 1 8 (Value.int .i64 0) := ⟨underlying22, ⟨_, Tryz.info2_, rfl, rfl, rfl⟩, rfl, by decide, by decide⟩
theorem Wt4 : ApI prog 29 45 1 24 (Value.agg #[Value.slice none 0 0]) := ⟨underlying29, ⟨_, Tryz.info45_, rfl, rfl, rfl⟩, rfl, by decide, by decide⟩
theorem Xa7 : ApI prog 43 78 9 16 (Value.agg #[Value.int .u8 0, Value.int .u8 0, Value.int .u8 0, Value.int .u8 0, Value.int .u8 0, Value.int .u8 0, Value.int .u8 0, Value.int .u8 0, Value.int .i64 0]) := ⟨underlying43, ⟨_, Tryz.info78_, rfl, rfl, rfl⟩, rfl, by decide, by decide⟩
theorem Vg9 : ApI prog 98 222 8 64 (Value.agg #[Value.int .i64 0, Value.int .i64 0, Value.int .i64 0, Value.int .i64 0, Value.int .i64 0, Value.int .i64 0, Value.int .i64 0, Value.int .i64 0]) := ⟨underlying98, ⟨_, Tryz.info222_, rfl, rfl, rfl⟩, rfl, by decide, by decide⟩
theorem Zk7 : ArI prog 222 3 8 1 := ⟨runUnderlying222, sizeOf3, isAgg3⟩
theorem Ww1 : ArI prog 237 107 8 1 := ⟨runUnderlying237, sizeOf107, isAgg107⟩
theorem Vj3 : ArI prog 71 5 8 1 := ⟨runUnderlying71, sizeOf5, isAgg5⟩
theorem Ze8 : ArI prog 72 5 8 1 := ⟨runUnderlying72, sizeOf5, isAgg5⟩
theorem Vi8 : BuI prog 298 #[Value.slice none 0 0, Value.int .i64 0, Value.slice none 0 0] #[(0, 1), (1, 1), (2, 1)] := ⟨_, _, zeroValue298, rfl, runUnderlying298, fun w => by kernel_rfl⟩
theorem Vj5 : BuI prog 45 #[Value.slice none 0 0] #[(0, 1)] := ⟨_, _, zeroValue45, rfl, runUnderlying45, fun w => by kernel_rfl⟩
theorem Xl8 : BuI prog 78 #[Value.int .u8 0, Value.int .u8 0, Value.int .u8 0, Value.int .u8 0, Value.int .u8 0, Value.int .u8 0, Value.int .u8 0, Value.int .u8 0, Value.int .i64 0] #[(0, 8), (8, 1)] := ⟨_, _, zeroValue78, rfl, runUnderlying78, fun w => by kernel_rfl⟩
theorem Xq3 : ∀ w, (Instr.build 222 #[]).run prog w = .ok (Value.agg #[Value.int .i64 0, Value.int .i64 0, Value.int .i64 0, Value.int .i64 0, Value.int .i64 0, Value.int .i64 0, Value.int .i64 0, Value.int .i64 0]) w := fun w => by kernel_rfl
theorem Vh1 : ∀ w, (Instr.build 237 #[]).run prog w = .ok (Value.agg #[Value.map none, Value.map none, Value.map none, Value.map none, Value.map none, Value.map none, Value.map none, Value.map none]) w := fun w => by kernel_rfl
theorem Yr1 : ∀ w, (Instr.build 45 #[]).run prog w = .ok (Value.agg #[Value.slice none 0 0]) w := fun w => by kernel_rfl
theorem Wf1 : ∀ w, (Instr.build 72 #[]).run prog w = .ok (Value.agg #[Value.int .u8 0, Value.int .u8 0, Value.int .u8 0, Value.int .u8 0, Value.int .u8 0, Value.int .u8 0, Value.int .u8 0, Value.int .u8 0]) w := fun w => by kernel_rfl
theorem Wh4 : CoI prog 3 5 .u8 := ⟨⟨_, runUnderlying3⟩, runUnderlying5⟩
theorem Ww6 : CoI prog 5 2 .i64 := ⟨⟨_, runUnderlying5⟩, runUnderlying2⟩
theorem Vi1 : CoI prog 5 3 .i64 := ⟨⟨_, runUnderlying5⟩, runUnderlying3⟩
theorem Vh7 : EqI prog 72 (fun a => (Z6 .u8 a).toArray) eq8 := Vj8 Tryz.eqGuardType72 underlying72 underlying5 Tryz.info5_ rfl
theorem Vc4 : Vd3 prog 45 0 0 false 1 := ⟨_, _, runUnderlying45, rfl, rfl, isAgg43, sizeOf43⟩
theorem Wr8 : Zk9 prog 199 0 0 := ⟨fun b o w => by simp [Instr.fieldAt, Instr.sureAddr, fieldPlace, runUnderlying199, sizeOf71, R7]⟩
theorem Wt6 : Zk9 prog 199 1 8 := ⟨fun b o w => by simp [Instr.fieldAt, Instr.sureAddr, fieldPlace, runUnderlying199, sizeOf2, R7]⟩
theorem Wc3 : Zk9 prog 25 0 0 := ⟨fun b o w => by simp [Instr.fieldAt, Instr.sureAddr, fieldPlace, runUnderlying25, sizeOf22, R7]⟩
theorem Wb9 : Zk9 prog 25 1 1 := ⟨fun b o w => by simp [Instr.fieldAt, Instr.sureAddr, fieldPlace, runUnderlying25, sizeOf23, R7]⟩
theorem Xc5 : Zk9 prog 298 0 0 := ⟨fun b o w => by simp [Instr.fieldAt, Instr.sureAddr, fieldPlace, runUnderlying298, sizeOf22, R7]⟩
theorem Xx5 : Zk9 prog 298 1 1 := ⟨fun b o w => by simp [Instr.fieldAt, Instr.sureAddr, fieldPlace, runUnderlying298, sizeOf3, R7]⟩
theorem Yf0 : Zk9 prog 298 2 2 := ⟨fun b o w => by simp [Instr.fieldAt, Instr.sureAddr, fieldPlace, runUnderlying298, sizeOf98, R7]⟩
theorem L6 : Zk9 prog 31 0 0 := ⟨fun b o w => by simp [Instr.fieldAt, Instr.sureAddr, fieldPlace, runUnderlying31, sizeOf22, R7]⟩
theorem Zf5 : Zk9 prog 31 1 1 := ⟨fun b o w => by simp [Instr.fieldAt, Instr.sureAddr, fieldPlace, runUnderlying31, sizeOf29, R7]⟩
theorem We0 : Zk9 prog 40 0 0 := ⟨fun b o w => by simp [Instr.fieldAt, Instr.sureAddr, fieldPlace, runUnderlying40, sizeOf38, R7]⟩
theorem U3 : Zk9 prog 45 0 0 := ⟨fun b o w => by simp [Instr.fieldAt, Instr.sureAddr, fieldPlace, runUnderlying45, sizeOf43, R7]⟩
theorem M9 : Zk9 prog 78 0 0 := ⟨fun b o w => by simp [Instr.fieldAt, Instr.sureAddr, fieldPlace, runUnderlying78, sizeOf72, R7]⟩
theorem Ze3 : Zk9 prog 78 1 8 := ⟨fun b o w => by simp [Instr.fieldAt, Instr.sureAddr, fieldPlace, runUnderlying78, sizeOf2, R7]⟩
theorem Zq8 : Ya4 prog 107 222 2 .i64 := Ww9 underlying107 underlying222 underlying3 Tryz.info3_ rfl zeroValue2
theorem T2 : SlI prog 100 22 1 := ⟨runUnderlying100, sizeOf22⟩
theorem Yb1 : SlI prog 129 72 8 := ⟨runUnderlying129, sizeOf72⟩
theorem U5 : SlI prog 22 2 1 := ⟨runUnderlying22, sizeOf2⟩
theorem Xk1 : SlI prog 23 40 1 := ⟨runUnderlying23, sizeOf40⟩
theorem Zf1 : SlI prog 29 45 1 := ⟨runUnderlying29, sizeOf45⟩
theorem Wg8 : SlI prog 38 199 9 := ⟨runUnderlying38, sizeOf199⟩
theorem R9 : SlI prog 43 78 9 := ⟨runUnderlying43, sizeOf78⟩
theorem Ya2 : SlI prog 98 222 8 := ⟨runUnderlying98, sizeOf222⟩
theorem Wv7 : TyI prog 107 false 1 := ⟨isAgg107, sizeOf107⟩
theorem Vi0 : TyI prog 199 true 9 := ⟨isAgg199, sizeOf199⟩
theorem ty2 : TyI prog 2 false 1 := ⟨isAgg2, sizeOf2⟩
theorem P4 : TyI prog 22 false 1 := ⟨isAgg22, sizeOf22⟩
theorem Q6 : TyI prog 222 true 8 := ⟨isAgg222, sizeOf222⟩
theorem Vc9 : TyI prog 23 false 1 := ⟨isAgg23, sizeOf23⟩
theorem Xi1 : TyI prog 237 true 8 := ⟨isAgg237, sizeOf237⟩
theorem Xq8 : TyI prog 25 true 2 := ⟨isAgg25, sizeOf25⟩
theorem Zy9 : TyI prog 29 false 1 := ⟨isAgg29, sizeOf29⟩
theorem ty3 : TyI prog 3 false 1 := ⟨isAgg3, sizeOf3⟩
theorem Ya1 : TyI prog 31 true 2 := ⟨isAgg31, sizeOf31⟩
theorem Vd9 : TyI prog 38 false 1 := ⟨isAgg38, sizeOf38⟩
theorem Ve4 : TyI prog 40 true 1 := ⟨isAgg40, sizeOf40⟩
theorem Q7 : TyI prog 43 false 1 := ⟨isAgg43, sizeOf43⟩
theorem Q4 : TyI prog 45 true 1 := ⟨isAgg45, sizeOf45⟩
theorem ty5 : TyI prog 5 false 1 := ⟨isAgg5, sizeOf5⟩
theorem Vj4 : TyI prog 71 true 8 := ⟨isAgg71, sizeOf71⟩
theorem P5 : TyI prog 72 true 8 := ⟨isAgg72, sizeOf72⟩
theorem Zy7 : TyI prog 78 true 9 := ⟨isAgg78, sizeOf78⟩
theorem Vg7 : TyI prog 94 false 1 := ⟨isAgg94, sizeOf94⟩
theorem Xj9 : TyI prog 98 false 1 := ⟨isAgg98, sizeOf98⟩
theorem ze2 : ZeI prog 2 1 (Value.int .i64 0) := ⟨zeroValue2, sizeOf2, rfl⟩
theorem Zn8 : ZeI prog 22 1 (Value.slice none 0 0) := ⟨zeroValue22, sizeOf22, rfl⟩
theorem Zk4 : ZeI prog 222 8 (Value.agg #[Value.int .i64 0, Value.int .i64 0, Value.int .i64 0, Value.int .i64 0, Value.int .i64 0, Value.int .i64 0, Value.int .i64 0, Value.int .i64 0]) := ⟨zeroValue222, sizeOf222, rfl⟩
theorem Wh5 : ZeI prog 237 8 (Value.agg #[Value.map none, Value.map none, Value.map none, Value.map none, Value.map none, Value.map none, Value.map none, Value.map none]) := ⟨zeroValue237, sizeOf237, rfl⟩
theorem ze3 : ZeI prog 3 1 (Value.int .i64 0) := ⟨zeroValue3, sizeOf3, rfl⟩
theorem Wu4 : ZeI prog 31 2 (Value.agg #[Value.slice none 0 0, Value.slice none 0 0]) := ⟨zeroValue31, sizeOf31, rfl⟩
theorem Zl9 : ZeI prog 45 1 (Value.agg #[Value.slice none 0 0]) := ⟨zeroValue45, sizeOf45, rfl⟩
theorem Yl0 : ZeI prog 72 8 (Value.agg #[Value.int .u8 0, Value.int .u8 0, Value.int .u8 0, Value.int .u8 0, Value.int .u8 0, Value.int .u8 0, Value.int .u8 0, Value.int .u8 0]) := ⟨zeroValue72, sizeOf72, rfl⟩
theorem Ye6 : ZeI prog 78 9 (Value.agg #[Value.int .u8 0, Value.int .u8 0, Value.int .u8 0, Value.int .u8 0, Value.int .u8 0, Value.int .u8 0, Value.int .u8 0, Value.int .u8 0, Value.int .i64 0]) := ⟨zeroValue78, sizeOf78, rfl⟩
end Go.Proofs.YtabofnehiclkiaaGreat
