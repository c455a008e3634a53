/- Facts on the types of this program. -/
import Derived.KernelRfl
import Derived.Test.YtabofnehiclkiaaGreatProg
import Derived.Test.YtabofnehiclkiaaGreatYS3
namespace Go.Proofs.YtabofnehiclkiaaGreat
open Go
set_option linter.unusedSimpArgs false
set_option linter.unusedVariables false
theorem mixed : Tryz.prog.follows .mixedOrders = true := by kernel_rfl
theorem Tryz.info222_ : Tryz.prog.info? 222 = some Tryz.t222 := by kernel_rfl
theorem Tryz.info22_ : Tryz.prog.info? 22 = some Tryz.t22 := by kernel_rfl
theorem Tryz.info2_ : Tryz.prog.info? 2 = some Tryz.t2 := by kernel_rfl
theorem Tryz.info3_ : Tryz.prog.info? 3 = some Tryz.t3 := by kernel_rfl
theorem Tryz.info45_ : Tryz.prog.info? 45 = some Tryz.t45 := by kernel_rfl
theorem Tryz.info5_ : Tryz.prog.info? 5 = some Tryz.t5 := by kernel_rfl
theorem Tryz.info72_ : Tryz.prog.info? 72 = some Tryz.t72 := by kernel_rfl
theorem Tryz.info78_ : Tryz.prog.info? 78 = some Tryz.t78 := by kernel_rfl
theorem Yf9 : ApI Tryz.prog 100 22 1 24 (Value.slice none 0 0) := ⟨Tryz.underlying100, ⟨_, Tryz.info22_, rfl, rfl, rfl⟩, rfl, by decide, by decide⟩
theorem Yl1 : ApI Tryz.prog 22 2 1 8 (Value.int .i64 0) := ⟨Tryz.underlying22, ⟨_, Tryz.info2_, rfl, rfl, rfl⟩, rfl, by decide, by decide⟩
theorem Ws9 : ApI Tryz.prog 29 45 1 24 (Value.agg #[Value.slice none 0 0]) := ⟨Tryz.underlying29, ⟨_, Tryz.info45_, rfl, rfl, rfl⟩, rfl, by decide, by decide⟩
theorem Xc5 : ApI Tryz.prog 43 78 9 16 (Value.agg #[Value.int .u8 0, Value.int .u8 0, Value.int .u8 0, Value.int .u8 0, Value.int .u8 0, Value.int .u8 0, Value.int .u8 0, Value.int .u8 0, Value.int .i64 0]) := ⟨Tryz.underlying43, ⟨_, Tryz.info78_, rfl, rfl, rfl⟩, rfl, by decide, by decide⟩
theorem Ve7 : ApI Tryz.prog 98 222 8 64 (Value.agg #[Value.int .i64 0, Value.int .i64 0, Value.int .i64 0, Value.int .i64 0, Value.int .i64 0, Value.int .i64 0, Value.int .i64 0, Value.int .i64 0]) := ⟨Tryz.underlying98, ⟨_, Tryz.info222_, rfl, rfl, rfl⟩, rfl, by decide, by decide⟩
theorem Zj5 : ArI Tryz.prog 222 3 8 1 := ⟨Tryz.runUnderlying222, Tryz.sizeOf3, Tryz.isAgg3⟩
theorem Wv0 : ArI Tryz.prog 237 107 8 1 := ⟨Tryz.runUnderlying237, Tryz.sizeOf107, Tryz.isAgg107⟩
theorem Vh9 : ArI Tryz.prog 71 5 8 1 := ⟨Tryz.runUnderlying71, Tryz.sizeOf5, Tryz.isAgg5⟩
theorem Zd6 : ArI Tryz.prog 72 5 8 1 := ⟨Tryz.runUnderlying72, Tryz.sizeOf5, Tryz.isAgg5⟩
theorem Vf7 : BuI Tryz.prog 298 #[Value.slice none 0 0, Value.int .i64 0, Value.slice none 0 0] #[(0, 1), (1, 1), (2, 1)] := ⟨_, _, Tryz.zeroValue298, rfl, Tryz.runUnderlying298, fun w => by kernel_rfl⟩
theorem Vh6 : BuI Tryz.prog 45 #[Value.slice none 0 0] #[(0, 1)] := ⟨_, _, Tryz.zeroValue45, rfl, Tryz.runUnderlying45, fun w => by kernel_rfl⟩
theorem Xj2 : BuI Tryz.prog 78 #[Value.int .u8 0, Value.int .u8 0, Value.int .u8 0, Value.int .u8 0, Value.int .u8 0, Value.int .u8 0, Value.int .u8 0, Value.int .u8 0, Value.int .i64 0] #[(0, 8), (8, 1)] := ⟨_, _, Tryz.zeroValue78, rfl, Tryz.runUnderlying78, fun w => by kernel_rfl⟩
theorem Xp1 : ∀ w, (Instr.build 222 #[]).run Tryz.prog w = .ok (Value.agg #[Value.int .i64 0, Value.int .i64 0, Value.int .i64 0, Value.int .i64 0, Value.int .i64 0, Value.int .i64 0, Value.int .i64 0, Value.int .i64 0]) w := fun w => by kernel_rfl
theorem Vh0 : ∀ w, (Instr.build 237 #[]).run Tryz.prog w = .ok (Value.agg #[Value.map none, Value.map none, Value.map none, Value.map none, Value.map none, Value.map none, Value.map none, Value.map none]) w := fun w => by kernel_rfl
theorem Yo4 : ∀ w, (Instr.build 45 #[]).run Tryz.prog w = .ok (Value.agg #[Value.slice none 0 0]) w := fun w => by kernel_rfl
theorem Wg0 : ∀ w, (Instr.build 72 #[]).run Tryz.prog w = .ok (Value.agg #[Value.int .u8 0, Value.int .u8 0, Value.int .u8 0, Value.int .u8 0, Value.int .u8 0, Value.int .u8 0, Value.int .u8 0, Value.int .u8 0]) w := fun w => by kernel_rfl
theorem We8 : CoI Tryz.prog 3 5 .u8 := ⟨⟨_, Tryz.runUnderlying3⟩, Tryz.runUnderlying5⟩
theorem Wu1 : CoI Tryz.prog 5 2 .i64 := ⟨⟨_, Tryz.runUnderlying5⟩, Tryz.runUnderlying2⟩
theorem Vg1 : CoI Tryz.prog 5 3 .i64 := ⟨⟨_, Tryz.runUnderlying5⟩, Tryz.runUnderlying3⟩
theorem Vg3 : EqI Tryz.prog 72 (fun a => (Z7 .u8 a).toArray) eq8 := Vh7 Tryz.eqGuardType72 Tryz.underlying72 Tryz.underlying5 Tryz.info5_ rfl
theorem Wy6 : Ve1 Tryz.prog 45 0 0 false 1 := ⟨_, _, Tryz.runUnderlying45, rfl, rfl, Tryz.isAgg43, Tryz.sizeOf43⟩
theorem Wo8 : Zj9 Tryz.prog 199 0 0 := ⟨fun b o w => by simp [Instr.fieldAt, Instr.sureAddr, fieldPlace, Tryz.runUnderlying199, Tryz.sizeOf71, Q3]⟩
theorem Wq6 : Zj9 Tryz.prog 199 1 8 := ⟨fun b o w => by simp [Instr.fieldAt, Instr.sureAddr, fieldPlace, Tryz.runUnderlying199, Tryz.sizeOf2, Q3]⟩
theorem Xz8 : Zj9 Tryz.prog 25 0 0 := ⟨fun b o w => by simp [Instr.fieldAt, Instr.sureAddr, fieldPlace, Tryz.runUnderlying25, Tryz.sizeOf22, Q3]⟩
theorem Xz0 : Zj9 Tryz.prog 25 1 1 := ⟨fun b o w => by simp [Instr.fieldAt, Instr.sureAddr, fieldPlace, Tryz.runUnderlying25, Tryz.sizeOf23, Q3]⟩
theorem Yz4 : Zj9 Tryz.prog 298 0 0 := ⟨fun b o w => by simp [Instr.fieldAt, Instr.sureAddr, fieldPlace, Tryz.runUnderlying298, Tryz.sizeOf22, Q3]⟩
theorem Xt7 : Zj9 Tryz.prog 298 1 1 := ⟨fun b o w => by simp [Instr.fieldAt, Instr.sureAddr, fieldPlace, Tryz.runUnderlying298, Tryz.sizeOf3, Q3]⟩
theorem Yb7 : Zj9 Tryz.prog 298 2 2 := ⟨fun b o w => by simp [Instr.fieldAt, Instr.sureAddr, fieldPlace, Tryz.runUnderlying298, Tryz.sizeOf98, Q3]⟩
theorem K5 : Zj9 Tryz.prog 31 0 0 := ⟨fun b o w => by simp [Instr.fieldAt, Instr.sureAddr, fieldPlace, Tryz.runUnderlying31, Tryz.sizeOf22, Q3]⟩
theorem Ze7 : Zj9 Tryz.prog 31 1 1 := ⟨fun b o w => by simp [Instr.fieldAt, Instr.sureAddr, fieldPlace, Tryz.runUnderlying31, Tryz.sizeOf29, Q3]⟩
theorem Wc3 : Zj9 Tryz.prog 40 0 0 := ⟨fun b o w => by simp [Instr.fieldAt, Instr.sureAddr, fieldPlace, Tryz.runUnderlying40, Tryz.sizeOf38, Q3]⟩
theorem U2 : Zj9 Tryz.prog 45 0 0 := ⟨fun b o w => by simp [Instr.fieldAt, Instr.sureAddr, fieldPlace, Tryz.runUnderlying45, Tryz.sizeOf43, Q3]⟩
theorem M7 : Zj9 Tryz.prog 78 0 0 := ⟨fun b o w => by simp [Instr.fieldAt, Instr.sureAddr, fieldPlace, Tryz.runUnderlying78, Tryz.sizeOf72, Q3]⟩
theorem Zc4 : Zj9 Tryz.prog 78 1 8 := ⟨fun b o w => by simp [Instr.fieldAt, Instr.sureAddr, fieldPlace, Tryz.runUnderlying78, Tryz.sizeOf2, Q3]⟩
theorem Zp8 : Zy9 Tryz.prog 107 222 2 .i64 := Wt8 Tryz.underlying107 Tryz.underlying222 Tryz.underlying3 Tryz.info3_ rfl Tryz.zeroValue2
theorem T3 : SlI Tryz.prog 100 22 1 := ⟨Tryz.runUnderlying100, Tryz.sizeOf22⟩
theorem Ye1 : SlI Tryz.prog 129 72 8 := ⟨Tryz.runUnderlying129, Tryz.sizeOf72⟩
theorem U5 : SlI Tryz.prog 22 2 1 := ⟨Tryz.runUnderlying22, Tryz.sizeOf2⟩
theorem Xi9 : SlI Tryz.prog 23 40 1 := ⟨Tryz.runUnderlying23, Tryz.sizeOf40⟩
theorem Ze0 : SlI Tryz.prog 29 45 1 := ⟨Tryz.runUnderlying29, Tryz.sizeOf45⟩
theorem Wf7 : SlI Tryz.prog 38 199 9 := ⟨Tryz.runUnderlying38, Tryz.sizeOf199⟩
theorem R6 : SlI Tryz.prog 43 78 9 := ⟨Tryz.runUnderlying43, Tryz.sizeOf78⟩
theorem Zz2 : SlI Tryz.prog 98 222 8 := ⟨Tryz.runUnderlying98, Tryz.sizeOf222⟩
theorem Wu9 : TyI Tryz.prog 107 false 1 := ⟨Tryz.isAgg107, Tryz.sizeOf107⟩
theorem Vg6 : TyI Tryz.prog 199 true 9 := ⟨Tryz.isAgg199, Tryz.sizeOf199⟩
theorem ty2 : TyI Tryz.prog 2 false 1 := ⟨Tryz.isAgg2, Tryz.sizeOf2⟩
theorem P6 : TyI Tryz.prog 22 false 1 := ⟨Tryz.isAgg22, Tryz.sizeOf22⟩
theorem Q5 : TyI Tryz.prog 222 true 8 := ⟨Tryz.isAgg222, Tryz.sizeOf222⟩
theorem Vd2 : TyI Tryz.prog 23 false 1 := ⟨Tryz.isAgg23, Tryz.sizeOf23⟩
theorem Xh0 : TyI Tryz.prog 237 true 8 := ⟨Tryz.isAgg237, Tryz.sizeOf237⟩
theorem Xr2 : TyI Tryz.prog 25 true 2 := ⟨Tryz.isAgg25, Tryz.sizeOf25⟩
theorem Zy0 : TyI Tryz.prog 29 false 1 := ⟨Tryz.isAgg29, Tryz.sizeOf29⟩
theorem ty3 : TyI Tryz.prog 3 false 1 := ⟨Tryz.isAgg3, Tryz.sizeOf3⟩
theorem Zz5 : TyI Tryz.prog 31 true 2 := ⟨Tryz.isAgg31, Tryz.sizeOf31⟩
theorem Vd6 : TyI Tryz.prog 38 false 1 := ⟨Tryz.isAgg38, Tryz.sizeOf38⟩
theorem Vd9 : TyI Tryz.prog 40 true 1 := ⟨Tryz.isAgg40, Tryz.sizeOf40⟩
theorem Q6 : TyI Tryz.prog 43 false 1 := ⟨Tryz.isAgg43, Tryz.sizeOf43⟩
theorem Q1 : TyI Tryz.prog 45 true 1 := ⟨Tryz.isAgg45, Tryz.sizeOf45⟩
theorem ty5 : TyI Tryz.prog 5 false 1 := ⟨Tryz.isAgg5, Tryz.sizeOf5⟩
theorem Vh4 : TyI Tryz.prog 71 true 8 := ⟨Tryz.isAgg71, Tryz.sizeOf71⟩
theorem P2 : TyI Tryz.prog 72 true 8 := ⟨Tryz.isAgg72, Tryz.sizeOf72⟩
theorem Zy2 : TyI Tryz.prog 78 true 9 := ⟨Tryz.isAgg78, Tryz.sizeOf78⟩
theorem Vb7 : TyI Tryz.prog 94 false 1 := ⟨Tryz.isAgg94, Tryz.sizeOf94⟩
theorem Xk7 : TyI Tryz.prog 98 false 1 := ⟨Tryz.isAgg98, Tryz.sizeOf98⟩
theorem ze2 : ZeI Tryz.prog 2 1 (Value.int .i64 0) := ⟨Tryz.zeroValue2, Tryz.sizeOf2, rfl⟩
theorem Zr6 : ZeI Tryz.prog 22 1 (Value.slice none 0 0) := ⟨Tryz.zeroValue22, Tryz.sizeOf22, rfl⟩
theorem Zj8 : ZeI Tryz.prog 222 8 (Value.agg #[Value.int .i64 0, Value.int .i64 0, Value.int .i64 0, Value.int .i64 0, Value.int .i64 0, Value.int .i64 0, Value.int .i64 0, Value.int .i64 0]) := ⟨Tryz.zeroValue222, Tryz.sizeOf222, rfl⟩
theorem Wc9 : ZeI Tryz.prog 237 8 (Value.agg #[Value.map none, Value.map none, Value.map none, Value.map none, Value.map none, Value.map none, Value.map none, Value.map none]) := ⟨Tryz.zeroValue237, Tryz.sizeOf237, rfl⟩
theorem ze3 : ZeI Tryz.prog 3 1 (Value.int .i64 0) := ⟨Tryz.zeroValue3, Tryz.sizeOf3, rfl⟩
theorem Wp6 : ZeI Tryz.prog 31 2 (Value.agg #[Value.slice none 0 0, Value.slice none 0 0]) := ⟨Tryz.zeroValue31, Tryz.sizeOf31, rfl⟩
theorem Zl0 : ZeI Tryz.prog 45 1 (Value.agg #[Value.slice none 0 0]) := ⟨Tryz.zeroValue45, Tryz.sizeOf45, rfl⟩
theorem Yi4 : ZeI Tryz.prog 72 8 (Value.agg #[Value.int .u8 0, Value.int .u8 0, Value.int .u8 0, Value.int .u8 0, Value.int .u8 0, Value.int .u8 0, Value.int .u8 0, Value.int .u8 0]) := ⟨Tryz.zeroValue72, Tryz.sizeOf72, rfl⟩
theorem Yb6 : ZeI Tryz.prog 78 9 (Value.agg #[Value.int .u8 0, Value.int .u8 0, Value.int .u8 0, Value.int .u8 0, Value.int .u8 0, Value.int .u8 0, Value.int .u8 0, Value.int .u8 0, Value.int .i64 0]) := ⟨Tryz.zeroValue78, Tryz.sizeOf78, rfl⟩
end Go.Proofs.YtabofnehiclkiaaGreat
