/- Walk, rules and plain laws. -/
import Derived.KernelRfl
import Derived.Test.YtabofnehiclkiaaGreatProg
import Derived.Test.YtabofnehiclkiaaGreatRS3
namespace Go.Proofs.YtabofnehiclkiaaGreat
open Go Go.Proofs.Tryz IntKind IntWalk List
set_option linter.all false
set_option maxRecDepth 100000
set_option maxHeartbeats 8000000
theorem mixed : prog.follows .mixedOrders = true := by kernel_rfl
theorem Tryz.info222_ : prog.info? 222 = some Tryz.t222 := by kernel_rfl
theorem Tryz.info22_ : prog.info? 22 = some Tryz.t22 := by kernel_rfl
theorem Tryz.info2_ : prog.info? 2 = some Tryz.t2 := by kernel_rfl
theorem Tryz.info3_ : prog.info? 3 = some Tryz.t3 := by kernel_rfl
theorem Tryz.info45_ : prog.info? 45 = some Tryz.t45 := by kernel_rfl
theorem Tryz.info5_ : prog.info? 5 = some Tryz.t5 := by kernel_rfl
theorem Tryz.info72_ : prog.info? 72 = some Tryz.t72 := by kernel_rfl
theorem Tryz.info78_ : prog.info? 78 = some Tryz.t78 := by kernel_rfl
theorem Ya0 : ApI prog 100 22 1 24 (Value.slice none 0 0) := ⟨underlying100, ⟨_, Tryz.info22_, U, U, U⟩, U, by decide, by decide⟩
theorem Zx1 : ApI prog 22 2 1 8 (Value.int .i64 0) := ⟨underlying22, ⟨_, Tryz.info2_, U, U, U⟩, U, by decide, by decide⟩
theorem Vm1 : ApI prog 29 45 1 24 (Value.agg #[Value.slice none 0 0]) := ⟨underlying29, ⟨_, Tryz.info45_, U, U, U⟩, U, by decide, by decide⟩
theorem Xd5 : ApI prog 43 78 9 16 (Value.agg #[Value.int .u8 0, Value.int .u8 0, Value.int .u8 0, Value.int .u8 0, Value.int .u8 0, Value.int .u8 0, Value.int .u8 0, Value.int .u8 0, Value.int .i64 0]) := ⟨underlying43, ⟨_, Tryz.info78_, U, U, U⟩, U, by decide, by decide⟩
theorem Vh6 : ApI prog 98 222 8 64 (Value.agg #[Value.int .i64 0, Value.int .i64 0, Value.int .i64 0, Value.int .i64 0, Value.int .i64 0, Value.int .i64 0, Value.int .i64 0, Value.int .i64 0]) := ⟨underlying98, ⟨_, Tryz.info222_, U, U, U⟩, U, by decide, by decide⟩
theorem Zm9 : ArI prog 222 3 8 1 := ⟨runUnderlying222, sizeOf3, isAgg3⟩
theorem Va1 : ArI prog 237 107 8 1 := ⟨runUnderlying237, sizeOf107, isAgg107⟩
theorem Vm4 : ArI prog 71 5 8 1 := ⟨runUnderlying71, sizeOf5, isAgg5⟩
theorem Zh5 : ArI prog 72 5 8 1 := ⟨runUnderlying72, sizeOf5, isAgg5⟩
theorem Vl2 : BuI prog 298 #[Value.slice none 0 0, Value.int .i64 0, Value.slice none 0 0] #[(0, 1), (1, 1), (2, 1)] := ⟨_, _, zeroValue298, U, runUnderlying298, fun w => by kernel_rfl⟩
theorem Vn0 : BuI prog 45 #[Value.slice none 0 0] #[(0, 1)] := ⟨_, _, zeroValue45, U, runUnderlying45, fun w => by kernel_rfl⟩
theorem Xn9 : BuI prog 78 #[Value.int .u8 0, Value.int .u8 0, Value.int .u8 0, Value.int .u8 0, Value.int .u8 0, Value.int .u8 0, Value.int .u8 0, Value.int .u8 0, Value.int .i64 0] #[(0, 8), (8, 1)] := ⟨_, _, zeroValue78, U, runUnderlying78, fun w => by kernel_rfl⟩
theorem Xt5 : ∀ w, (Instr.build 222 #[]).run prog w = .ok (Value.agg #[Value.int .i64 0, Value.int .i64 0, Value.int .i64 0, Value.int .i64 0, Value.int .i64 0, Value.int .i64 0, Value.int .i64 0, Value.int .i64 0]) w := fun w => by kernel_rfl
theorem Vk3 : ∀ w, (Instr.build 237 #[]).run prog w = .ok (Value.agg #[Value.map none, Value.map none, Value.map none, Value.map none, Value.map none, Value.map none, Value.map none, Value.map none]) w := fun w => by kernel_rfl
theorem Zz0 : ∀ w, (Instr.build 45 #[]).run prog w = .ok (Value.agg #[Value.slice none 0 0]) w := fun w => by kernel_rfl
theorem Wj8 : ∀ w, (Instr.build 72 #[]).run prog w = .ok (Value.agg #[Value.int .u8 0, Value.int .u8 0, Value.int .u8 0, Value.int .u8 0, Value.int .u8 0, Value.int .u8 0, Value.int .u8 0, Value.int .u8 0]) w := fun w => by kernel_rfl
theorem Wk4 : CoI prog 3 5 .u8 := ⟨⟨_, runUnderlying3⟩, runUnderlying5⟩
theorem Va0 : CoI prog 5 2 .i64 := ⟨⟨_, runUnderlying5⟩, runUnderlying2⟩
theorem Vl1 : CoI prog 5 3 .i64 := ⟨⟨_, runUnderlying5⟩, runUnderlying3⟩
theorem Vk8 : EqI prog 72 (fun a => (Z7 .u8 a).toArray) eq8 := Vm2 Tryz.eqGuardType72 underlying72 underlying5 Tryz.info5_ U
theorem Wf5 : Vg2 prog 45 0 0 false 1 := ⟨_, _, runUnderlying45, U, U, isAgg43, sizeOf43⟩
theorem Wu9 : Zn0 prog 199 0 0 := ⟨fun b o w => by simp [Instr.fieldAt, Instr.sureAddr, fieldPlace, runUnderlying199, sizeOf71, Q2]⟩
theorem Wt4 : Zn0 prog 199 1 8 := ⟨fun b o w => by simp [Instr.fieldAt, Instr.sureAddr, fieldPlace, runUnderlying199, sizeOf2, Q2]⟩
theorem Wh6 : Zn0 prog 25 0 0 := ⟨fun b o w => by simp [Instr.fieldAt, Instr.sureAddr, fieldPlace, runUnderlying25, sizeOf22, Q2]⟩
theorem Wg9 : Zn0 prog 25 1 1 := ⟨fun b o w => by simp [Instr.fieldAt, Instr.sureAddr, fieldPlace, runUnderlying25, sizeOf23, Q2]⟩
theorem Xg8 : Zn0 prog 298 0 0 := ⟨fun b o w => by simp [Instr.fieldAt, Instr.sureAddr, fieldPlace, runUnderlying298, sizeOf22, Q2]⟩
theorem Xu4 : Zn0 prog 298 1 1 := ⟨fun b o w => by simp [Instr.fieldAt, Instr.sureAddr, fieldPlace, runUnderlying298, sizeOf3, Q2]⟩
theorem Yf5 : Zn0 prog 298 2 2 := ⟨fun b o w => by simp [Instr.fieldAt, Instr.sureAddr, fieldPlace, runUnderlying298, sizeOf98, Q2]⟩
theorem N8 : Zn0 prog 31 0 0 := ⟨fun b o w => by simp [Instr.fieldAt, Instr.sureAddr, fieldPlace, runUnderlying31, sizeOf22, Q2]⟩
theorem Zh6 : Zn0 prog 31 1 1 := ⟨fun b o w => by simp [Instr.fieldAt, Instr.sureAddr, fieldPlace, runUnderlying31, sizeOf29, Q2]⟩
theorem Wf3 : Zn0 prog 40 0 0 := ⟨fun b o w => by simp [Instr.fieldAt, Instr.sureAddr, fieldPlace, runUnderlying40, sizeOf38, Q2]⟩
theorem U8 : Zn0 prog 45 0 0 := ⟨fun b o w => by simp [Instr.fieldAt, Instr.sureAddr, fieldPlace, runUnderlying45, sizeOf43, Q2]⟩
theorem L6 : Zn0 prog 78 0 0 := ⟨fun b o w => by simp [Instr.fieldAt, Instr.sureAddr, fieldPlace, runUnderlying78, sizeOf72, Q2]⟩
theorem Zf7 : Zn0 prog 78 1 8 := ⟨fun b o w => by simp [Instr.fieldAt, Instr.sureAddr, fieldPlace, runUnderlying78, sizeOf2, Q2]⟩
theorem Zs5 : Yc3 prog 107 222 2 .i64 := Wy4 underlying107 underlying222 underlying3 Tryz.info3_ U zeroValue2
theorem T2 : SlI prog 100 22 1 := ⟨runUnderlying100, sizeOf22⟩
theorem Zv3 : SlI prog 129 72 8 := ⟨runUnderlying129, sizeOf72⟩
theorem T1 : SlI prog 22 2 1 := ⟨runUnderlying22, sizeOf2⟩
theorem Xm4 : SlI prog 23 40 1 := ⟨runUnderlying23, sizeOf40⟩
theorem Zm7 : SlI prog 29 45 1 := ⟨runUnderlying29, sizeOf45⟩
theorem Wi7 : SlI prog 38 199 9 := ⟨runUnderlying38, sizeOf199⟩
theorem Q0 : SlI prog 43 78 9 := ⟨runUnderlying43, sizeOf78⟩
theorem Zv1 : SlI prog 98 222 8 := ⟨runUnderlying98, sizeOf222⟩
theorem Wz8 : TyI prog 107 false 1 := ⟨isAgg107, sizeOf107⟩
theorem Vl9 : TyI prog 199 true 9 := ⟨isAgg199, sizeOf199⟩
theorem ty2 : TyI prog 2 false 1 := ⟨isAgg2, sizeOf2⟩
theorem Q9 : TyI prog 22 false 1 := ⟨isAgg22, sizeOf22⟩
theorem P3 : TyI prog 222 true 8 := ⟨isAgg222, sizeOf222⟩
theorem Vi8 : TyI prog 23 false 1 := ⟨isAgg23, sizeOf23⟩
theorem Xi7 : TyI prog 237 true 8 := ⟨isAgg237, sizeOf237⟩
theorem Xy0 : TyI prog 25 true 2 := ⟨isAgg25, sizeOf25⟩
theorem Yb2 : TyI prog 29 false 1 := ⟨isAgg29, sizeOf29⟩
theorem ty3 : TyI prog 3 false 1 := ⟨isAgg3, sizeOf3⟩
theorem Zx2 : TyI prog 31 true 2 := ⟨isAgg31, sizeOf31⟩
theorem Vi3 : TyI prog 38 false 1 := ⟨isAgg38, sizeOf38⟩
theorem Xe5 : TyI prog 40 true 1 := ⟨isAgg40, sizeOf40⟩
theorem P1 : TyI prog 43 false 1 := ⟨isAgg43, sizeOf43⟩
theorem U7 : TyI prog 45 true 1 := ⟨isAgg45, sizeOf45⟩
theorem ty5 : TyI prog 5 false 1 := ⟨isAgg5, sizeOf5⟩
theorem Vm5 : TyI prog 71 true 8 := ⟨isAgg71, sizeOf71⟩
theorem P7 : TyI prog 72 true 8 := ⟨isAgg72, sizeOf72⟩
theorem Yb3 : TyI prog 78 true 9 := ⟨isAgg78, sizeOf78⟩
theorem Vh9 : TyI prog 94 false 1 := ⟨isAgg94, sizeOf94⟩
theorem Xo3 : TyI prog 98 false 1 := ⟨isAgg98, sizeOf98⟩
theorem ze2 : ZeI prog 2 1 (Value.int .i64 0) := ⟨zeroValue2, sizeOf2, U⟩
theorem Zj1 : ZeI prog 22 1 (Value.slice none 0 0) := ⟨zeroValue22, sizeOf22, U⟩
theorem Zm8 : ZeI prog 222 8 (Value.agg #[Value.int .i64 0, Value.int .i64 0, Value.int .i64 0, Value.int .i64 0, Value.int .i64 0, Value.int .i64 0, Value.int .i64 0, Value.int .i64 0]) := ⟨zeroValue222, sizeOf222, U⟩
theorem Wm3 : ZeI prog 237 8 (Value.agg #[Value.map none, Value.map none, Value.map none, Value.map none, Value.map none, Value.map none, Value.map none, Value.map none]) := ⟨zeroValue237, sizeOf237, U⟩
theorem ze3 : ZeI prog 3 1 (Value.int .i64 0) := ⟨zeroValue3, sizeOf3, U⟩
theorem Wt0 : ZeI prog 31 2 (Value.agg #[Value.slice none 0 0, Value.slice none 0 0]) := ⟨zeroValue31, sizeOf31, U⟩
theorem Zj8 : ZeI prog 45 1 (Value.agg #[Value.slice none 0 0]) := ⟨zeroValue45, sizeOf45, U⟩
theorem Yn9 : ZeI prog 72 8 (Value.agg #[Value.int .u8 0, Value.int .u8 0, Value.int .u8 0, Value.int .u8 0, Value.int .u8 0, Value.int .u8 0, Value.int .u8 0, Value.int .u8 0]) := ⟨zeroValue72, sizeOf72, U⟩
theorem Yg3 : ZeI prog 78 9 (Value.agg #[Value.int .u8 0, Value.int .u8 0, Value.int .u8 0, Value.int .u8 0, Value.int .u8 0, Value.int .u8 0, Value.int .u8 0, Value.int .u8 0, Value.int .i64 0]) := ⟨zeroValue78, sizeOf78, U⟩
end Go.Proofs.YtabofnehiclkiaaGreat
