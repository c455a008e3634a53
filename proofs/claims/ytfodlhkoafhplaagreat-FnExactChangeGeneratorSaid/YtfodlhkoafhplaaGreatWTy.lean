/- Facts on the types of this program. -/
import Derived.KernelRfl
import Derived.Test.YtfodlhkoafhplaaGreatProg
import Derived.Test.YtfodlhkoafhplaaGreatWS3
namespace Go.Proofs.YtfodlhkoafhplaaGreat
open Go
set_option linter.unusedSimpArgs false
set_option linter.unusedVariables false
theorem mixed : Tryz.prog.follows .mixedOrders = true := by kernel_rfl
theorem Tryz.info109_ : Tryz.prog.info? 109 = some Tryz.t109 := by kernel_rfl
theorem Tryz.info188_ : Tryz.prog.info? 188 = some Tryz.t188 := by kernel_rfl
theorem Tryz.info2_ : Tryz.prog.info? 2 = some Tryz.t2 := by kernel_rfl
theorem Tryz.info3_ : Tryz.prog.info? 3 = some Tryz.t3 := by kernel_rfl
theorem Tryz.info47_ : Tryz.prog.info? 47 = some Tryz.t47 := by kernel_rfl
theorem Tryz.info76_ : Tryz.prog.info? 76 = some Tryz.t76 := by kernel_rfl
theorem Wk2 : ApI Tryz.prog 120 188 8 64 (Value.agg #[Value.int .i64 0, Value.int .i64 0, Value.int .i64 0, Value.int .i64 0, Value.int .i64 0, Value.int .i64 0, Value.int .i64 0, Value.int .i64 0]) := ⟨Tryz.underlying120, ⟨_, Tryz.info188_, rfl, rfl, rfl⟩, rfl, by decide, by decide⟩
theorem Wj9 : ApI Tryz.prog 184 109 1 8 (Value.map none) := ⟨Tryz.underlying184, ⟨_, Tryz.info109_, rfl, rfl, rfl⟩, rfl, by decide, by decide⟩
theorem Xy6 : ApI Tryz.prog 22 2 1 8 (Value.int .i64 0) := ⟨Tryz.underlying22, ⟨_, Tryz.info2_, rfl, rfl, rfl⟩, rfl, by decide, by decide⟩
theorem Yy4 : ApI Tryz.prog 27 47 1 24 (Value.agg #[Value.slice none 0 0]) := ⟨Tryz.underlying27, ⟨_, Tryz.info47_, rfl, rfl, rfl⟩, rfl, by decide, by decide⟩
theorem Yt8 : ApI Tryz.prog 45 76 9 16 (Value.agg #[Value.int .u8 0, Value.int .u8 0, Value.int .u8 0, Value.int .u8 0, Value.int .u8 0, Value.int .u8 0, Value.int .u8 0, Value.int .u8 0, Value.int .i64 0]) := ⟨Tryz.underlying45, ⟨_, Tryz.info76_, rfl, rfl, rfl⟩, rfl, by decide, by decide⟩
theorem Yy0 : ArI Tryz.prog 182 109 8 1 := ⟨Tryz.runUnderlying182, Tryz.sizeOf109, Tryz.isAgg109⟩
theorem Zg4 : ArI Tryz.prog 188 3 8 1 := ⟨Tryz.runUnderlying188, Tryz.sizeOf3, Tryz.isAgg3⟩
theorem Wm3 : ArI Tryz.prog 69 5 8 1 := ⟨Tryz.runUnderlying69, Tryz.sizeOf5, Tryz.isAgg5⟩
theorem Za7 : ArI Tryz.prog 70 5 8 1 := ⟨Tryz.runUnderlying70, Tryz.sizeOf5, Tryz.isAgg5⟩
theorem Wj6 : BuI Tryz.prog 214 #[Value.slice none 0 0, Value.slice none 0 0, Value.slice none 0 0, Value.map none] #[(0, 1), (1, 1), (2, 1), (3, 1)] := ⟨_, _, Tryz.zeroValue214, rfl, Tryz.runUnderlying214, fun w => by kernel_rfl⟩
theorem Xv9 : BuI Tryz.prog 29 #[Value.slice none 0 0, Value.slice none 0 0] #[(0, 1), (1, 1)] := ⟨_, _, Tryz.zeroValue29, rfl, Tryz.runUnderlying29, fun w => by kernel_rfl⟩
theorem Wm1 : BuI Tryz.prog 47 #[Value.slice none 0 0] #[(0, 1)] := ⟨_, _, Tryz.zeroValue47, rfl, Tryz.runUnderlying47, fun w => by kernel_rfl⟩
theorem Yz4 : BuI Tryz.prog 76 #[Value.int .u8 0, Value.int .u8 0, Value.int .u8 0, Value.int .u8 0, Value.int .u8 0, Value.int .u8 0, Value.int .u8 0, Value.int .u8 0, Value.int .i64 0] #[(0, 8), (8, 1)] := ⟨_, _, Tryz.zeroValue76, rfl, Tryz.runUnderlying76, fun w => by kernel_rfl⟩
theorem Wb3 : ∀ w, (Instr.build 182 #[]).run Tryz.prog w = .ok (Value.agg #[Value.map none, Value.map none, Value.map none, Value.map none, Value.map none, Value.map none, Value.map none, Value.map none]) w := fun w => by kernel_rfl
theorem Yx1 : ∀ w, (Instr.build 188 #[]).run Tryz.prog w = .ok (Value.agg #[Value.int .i64 0, Value.int .i64 0, Value.int .i64 0, Value.int .i64 0, Value.int .i64 0, Value.int .i64 0, Value.int .i64 0, Value.int .i64 0]) w := fun w => by kernel_rfl
theorem Yy7 : ∀ w, (Instr.build 29 #[]).run Tryz.prog w = .ok (Value.agg #[Value.slice none 0 0, Value.slice none 0 0]) w := fun w => by kernel_rfl
theorem Yc4 : ∀ w, (Instr.build 47 #[]).run Tryz.prog w = .ok (Value.agg #[Value.slice none 0 0]) w := fun w => by kernel_rfl
theorem Yt1 : ∀ w, (Instr.build 70 #[]).run Tryz.prog w = .ok (Value.agg #[Value.int .u8 0, Value.int .u8 0, Value.int .u8 0, Value.int .u8 0, Value.int .u8 0, Value.int .u8 0, Value.int .u8 0, Value.int .u8 0]) w := fun w => by kernel_rfl
theorem Xq5 : CoI Tryz.prog 3 5 .u8 := ⟨⟨_, Tryz.runUnderlying3⟩, Tryz.runUnderlying5⟩
theorem Wb0 : CoI Tryz.prog 5 2 .i64 := ⟨⟨_, Tryz.runUnderlying5⟩, Tryz.runUnderlying2⟩
theorem Wk9 : CoI Tryz.prog 5 3 .i64 := ⟨⟨_, Tryz.runUnderlying5⟩, Tryz.runUnderlying3⟩
theorem We5 : Wh8 Tryz.prog 47 0 0 false 1 := ⟨_, _, Tryz.runUnderlying47, rfl, rfl, Tryz.isAgg45, Tryz.sizeOf45⟩
theorem Xx1 : Zu8 Tryz.prog 214 0 0 := ⟨fun b o w => by simp [Instr.fieldAt, Instr.sureAddr, fieldPlace, Tryz.runUnderlying214, Tryz.sizeOf22, G8]⟩
theorem Xh4 : Zu8 Tryz.prog 214 1 1 := ⟨fun b o w => by simp [Instr.fieldAt, Instr.sureAddr, fieldPlace, Tryz.runUnderlying214, Tryz.sizeOf22, G8]⟩
theorem Xx8 : Zu8 Tryz.prog 214 2 2 := ⟨fun b o w => by simp [Instr.fieldAt, Instr.sureAddr, fieldPlace, Tryz.runUnderlying214, Tryz.sizeOf184, G8]⟩
theorem Xw0 : Zu8 Tryz.prog 236 0 0 := ⟨fun b o w => by simp [Instr.fieldAt, Instr.sureAddr, fieldPlace, Tryz.runUnderlying236, Tryz.sizeOf69, G8]⟩
theorem Xx3 : Zu8 Tryz.prog 236 1 8 := ⟨fun b o w => by simp [Instr.fieldAt, Instr.sureAddr, fieldPlace, Tryz.runUnderlying236, Tryz.sizeOf2, G8]⟩
theorem Xo5 : Zu8 Tryz.prog 25 0 0 := ⟨fun b o w => by simp [Instr.fieldAt, Instr.sureAddr, fieldPlace, Tryz.runUnderlying25, Tryz.sizeOf22, G8]⟩
theorem Xn2 : Zu8 Tryz.prog 25 1 1 := ⟨fun b o w => by simp [Instr.fieldAt, Instr.sureAddr, fieldPlace, Tryz.runUnderlying25, Tryz.sizeOf23, G8]⟩
theorem R4 : Zu8 Tryz.prog 29 0 0 := ⟨fun b o w => by simp [Instr.fieldAt, Instr.sureAddr, fieldPlace, Tryz.runUnderlying29, Tryz.sizeOf22, G8]⟩
theorem N5 : Zu8 Tryz.prog 29 1 1 := ⟨fun b o w => by simp [Instr.fieldAt, Instr.sureAddr, fieldPlace, Tryz.runUnderlying29, Tryz.sizeOf27, G8]⟩
theorem Xn3 : Zu8 Tryz.prog 42 0 0 := ⟨fun b o w => by simp [Instr.fieldAt, Instr.sureAddr, fieldPlace, Tryz.runUnderlying42, Tryz.sizeOf40, G8]⟩
theorem V6 : Zu8 Tryz.prog 47 0 0 := ⟨fun b o w => by simp [Instr.fieldAt, Instr.sureAddr, fieldPlace, Tryz.runUnderlying47, Tryz.sizeOf45, G8]⟩
theorem P0 : Zu8 Tryz.prog 76 0 0 := ⟨fun b o w => by simp [Instr.fieldAt, Instr.sureAddr, fieldPlace, Tryz.runUnderlying76, Tryz.sizeOf70, G8]⟩
theorem Zc0 : Zu8 Tryz.prog 76 1 8 := ⟨fun b o w => by simp [Instr.fieldAt, Instr.sureAddr, fieldPlace, Tryz.runUnderlying76, Tryz.sizeOf2, G8]⟩
theorem Zm8 : Zx0 Tryz.prog 109 188 2 .i64 := Wk1 Tryz.underlying109 Tryz.underlying188 Tryz.underlying3 Tryz.info3_ rfl Tryz.zeroValue2
theorem Xd8 : SlI Tryz.prog 105 3 1 := ⟨Tryz.runUnderlying105, Tryz.sizeOf3⟩
theorem Xd9 : SlI Tryz.prog 120 188 8 := ⟨Tryz.runUnderlying120, Tryz.sizeOf188⟩
theorem Xe0 : SlI Tryz.prog 184 109 1 := ⟨Tryz.runUnderlying184, Tryz.sizeOf109⟩
theorem Q9 : SlI Tryz.prog 22 2 1 := ⟨Tryz.runUnderlying22, Tryz.sizeOf2⟩
theorem Yz3 : SlI Tryz.prog 23 42 1 := ⟨Tryz.runUnderlying23, Tryz.sizeOf42⟩
theorem J2 : SlI Tryz.prog 27 47 1 := ⟨Tryz.runUnderlying27, Tryz.sizeOf47⟩
theorem Xq7 : SlI Tryz.prog 40 236 9 := ⟨Tryz.runUnderlying40, Tryz.sizeOf236⟩
theorem S9 : SlI Tryz.prog 45 76 9 := ⟨Tryz.runUnderlying45, Tryz.sizeOf76⟩
theorem Wb9 : TyI Tryz.prog 102 false 1 := ⟨Tryz.isAgg102, Tryz.sizeOf102⟩
theorem Yk4 : TyI Tryz.prog 109 false 1 := ⟨Tryz.isAgg109, Tryz.sizeOf109⟩
theorem Zv8 : TyI Tryz.prog 182 true 8 := ⟨Tryz.isAgg182, Tryz.sizeOf182⟩
theorem Wk5 : TyI Tryz.prog 184 false 1 := ⟨Tryz.isAgg184, Tryz.sizeOf184⟩
theorem N2 : TyI Tryz.prog 188 true 8 := ⟨Tryz.isAgg188, Tryz.sizeOf188⟩
theorem ty2 : TyI Tryz.prog 2 false 1 := ⟨Tryz.isAgg2, Tryz.sizeOf2⟩
theorem J3 : TyI Tryz.prog 22 false 1 := ⟨Tryz.isAgg22, Tryz.sizeOf22⟩
theorem Wi5 : TyI Tryz.prog 23 false 1 := ⟨Tryz.isAgg23, Tryz.sizeOf23⟩
theorem Wk8 : TyI Tryz.prog 236 true 9 := ⟨Tryz.isAgg236, Tryz.sizeOf236⟩
theorem Xg7 : TyI Tryz.prog 25 true 2 := ⟨Tryz.isAgg25, Tryz.sizeOf25⟩
theorem Zd8 : TyI Tryz.prog 27 false 1 := ⟨Tryz.isAgg27, Tryz.sizeOf27⟩
theorem P9 : TyI Tryz.prog 29 true 2 := ⟨Tryz.isAgg29, Tryz.sizeOf29⟩
theorem ty3 : TyI Tryz.prog 3 false 1 := ⟨Tryz.isAgg3, Tryz.sizeOf3⟩
theorem Wj5 : TyI Tryz.prog 40 false 1 := ⟨Tryz.isAgg40, Tryz.sizeOf40⟩
theorem Yu7 : TyI Tryz.prog 42 true 1 := ⟨Tryz.isAgg42, Tryz.sizeOf42⟩
theorem R7 : TyI Tryz.prog 45 false 1 := ⟨Tryz.isAgg45, Tryz.sizeOf45⟩
theorem U7 : TyI Tryz.prog 47 true 1 := ⟨Tryz.isAgg47, Tryz.sizeOf47⟩
theorem ty5 : TyI Tryz.prog 5 false 1 := ⟨Tryz.isAgg5, Tryz.sizeOf5⟩
theorem Wm4 : TyI Tryz.prog 69 true 8 := ⟨Tryz.isAgg69, Tryz.sizeOf69⟩
theorem N0 : TyI Tryz.prog 70 true 8 := ⟨Tryz.isAgg70, Tryz.sizeOf70⟩
theorem Zs8 : TyI Tryz.prog 76 true 9 := ⟨Tryz.isAgg76, Tryz.sizeOf76⟩
theorem Wa7 : ZeI Tryz.prog 109 1 (Value.map none) := ⟨Tryz.zeroValue109, Tryz.sizeOf109, rfl⟩
theorem Yq5 : ZeI Tryz.prog 182 8 (Value.agg #[Value.map none, Value.map none, Value.map none, Value.map none, Value.map none, Value.map none, Value.map none, Value.map none]) := ⟨Tryz.zeroValue182, Tryz.sizeOf182, rfl⟩
theorem Zl0 : ZeI Tryz.prog 188 8 (Value.agg #[Value.int .i64 0, Value.int .i64 0, Value.int .i64 0, Value.int .i64 0, Value.int .i64 0, Value.int .i64 0, Value.int .i64 0, Value.int .i64 0]) := ⟨Tryz.zeroValue188, Tryz.sizeOf188, rfl⟩
theorem ze2 : ZeI Tryz.prog 2 1 (Value.int .i64 0) := ⟨Tryz.zeroValue2, Tryz.sizeOf2, rfl⟩
theorem Zu9 : ZeI Tryz.prog 29 2 (Value.agg #[Value.slice none 0 0, Value.slice none 0 0]) := ⟨Tryz.zeroValue29, Tryz.sizeOf29, rfl⟩
theorem Zb2 : ZeI Tryz.prog 47 1 (Value.agg #[Value.slice none 0 0]) := ⟨Tryz.zeroValue47, Tryz.sizeOf47, rfl⟩
theorem Ya8 : ZeI Tryz.prog 70 8 (Value.agg #[Value.int .u8 0, Value.int .u8 0, Value.int .u8 0, Value.int .u8 0, Value.int .u8 0, Value.int .u8 0, Value.int .u8 0, Value.int .u8 0]) := ⟨Tryz.zeroValue70, Tryz.sizeOf70, rfl⟩
theorem Zy1 : ZeI Tryz.prog 76 9 (Value.agg #[Value.int .u8 0, Value.int .u8 0, Value.int .u8 0, Value.int .u8 0, Value.int .u8 0, Value.int .u8 0, Value.int .u8 0, Value.int .u8 0, Value.int .i64 0]) := ⟨Tryz.zeroValue76, Tryz.sizeOf76, rfl⟩
end Go.Proofs.YtfodlhkoafhplaaGreat
