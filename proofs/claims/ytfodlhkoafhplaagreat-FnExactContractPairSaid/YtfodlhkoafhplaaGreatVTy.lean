/- Facts on the types of this program. -/
import Derived.KernelRfl
import Derived.Test.YtfodlhkoafhplaaGreatProg
import Derived.Test.YtfodlhkoafhplaaGreatVS3
namespace Go.Proofs.YtfodlhkoafhplaaGreat
open Go
set_option linter.unusedSimpArgs false
set_option linter.unusedVariables false
theorem mixed : Tryz.prog.follows .mixedOrders = true := by kernel_rfl
theorem Tryz.info109_ : Tryz.prog.info? 109 = some Tryz.t109 := by kernel_rfl
theorem Tryz.info188_ : Tryz.prog.info? 188 = some Tryz.t188 := by kernel_rfl
theorem Tryz.info22_ : Tryz.prog.info? 22 = some Tryz.t22 := by kernel_rfl
theorem Tryz.info2_ : Tryz.prog.info? 2 = some Tryz.t2 := by kernel_rfl
theorem Tryz.info3_ : Tryz.prog.info? 3 = some Tryz.t3 := by kernel_rfl
theorem Tryz.info47_ : Tryz.prog.info? 47 = some Tryz.t47 := by kernel_rfl
theorem Tryz.info76_ : Tryz.prog.info? 76 = some Tryz.t76 := by kernel_rfl
theorem Wn4 : ApI Tryz.prog 105 3 1 8 (Value.int .i64 0) := ⟨Tryz.underlying105, ⟨_, Tryz.info3_, rfl, rfl, rfl⟩, rfl, by decide, by decide⟩
theorem Va5 : ApI Tryz.prog 120 188 8 64 (Value.agg #[Value.int .i64 0, Value.int .i64 0, Value.int .i64 0, Value.int .i64 0, Value.int .i64 0, Value.int .i64 0, Value.int .i64 0, Value.int .i64 0]) := ⟨Tryz.underlying120, ⟨_, Tryz.info188_, rfl, rfl, rfl⟩, rfl, by decide, by decide⟩
theorem Wo3 : ApI Tryz.prog 122 22 1 24 (Value.slice none 0 0) := ⟨Tryz.underlying122, ⟨_, Tryz.info22_, rfl, rfl, rfl⟩, rfl, by decide, by decide⟩
theorem Xy2 : ApI Tryz.prog 184 109 1 8 (Value.map none) := ⟨Tryz.underlying184, ⟨_, Tryz.info109_, rfl, rfl, rfl⟩, rfl, by decide, by decide⟩
theorem Xp4 : ApI Tryz.prog 22 2 1 8 (Value.int .i64 0) := ⟨Tryz.underlying22, ⟨_, Tryz.info2_, rfl, rfl, rfl⟩, rfl, by decide, by decide⟩
theorem Xg9 : ApI Tryz.prog 27 47 1 24 (Value.agg #[Value.slice none 0 0]) := ⟨Tryz.underlying27, ⟨_, Tryz.info47_, rfl, rfl, rfl⟩, rfl, by decide, by decide⟩
theorem Xg3 : ApI Tryz.prog 45 76 9 16 (Value.agg #[Value.int .u8 0, Value.int .u8 0, Value.int .u8 0, Value.int .u8 0, Value.int .u8 0, Value.int .u8 0, Value.int .u8 0, Value.int .u8 0, Value.int .i64 0]) := ⟨Tryz.underlying45, ⟨_, Tryz.info76_, rfl, rfl, rfl⟩, rfl, by decide, by decide⟩
theorem Wm6 : ArI Tryz.prog 182 109 8 1 := ⟨Tryz.runUnderlying182, Tryz.sizeOf109, Tryz.isAgg109⟩
theorem Zi8 : ArI Tryz.prog 188 3 8 1 := ⟨Tryz.runUnderlying188, Tryz.sizeOf3, Tryz.isAgg3⟩
theorem Vb1 : ArI Tryz.prog 69 5 8 1 := ⟨Tryz.runUnderlying69, Tryz.sizeOf5, Tryz.isAgg5⟩
theorem Zd3 : ArI Tryz.prog 70 5 8 1 := ⟨Tryz.runUnderlying70, Tryz.sizeOf5, Tryz.isAgg5⟩
theorem Wm8 : BuI Tryz.prog 214 #[Value.slice none 0 0, Value.slice none 0 0, Value.slice none 0 0, Value.map none] #[(0, 1), (1, 1), (2, 1), (3, 1)] := ⟨_, _, Tryz.zeroValue214, rfl, Tryz.runUnderlying214, fun w => by kernel_rfl⟩
theorem Wx4 : BuI Tryz.prog 29 #[Value.slice none 0 0, Value.slice none 0 0] #[(0, 1), (1, 1)] := ⟨_, _, Tryz.zeroValue29, rfl, Tryz.runUnderlying29, fun w => by kernel_rfl⟩
theorem Vb4 : BuI Tryz.prog 47 #[Value.slice none 0 0] #[(0, 1)] := ⟨_, _, Tryz.zeroValue47, rfl, Tryz.runUnderlying47, fun w => by kernel_rfl⟩
theorem Xn4 : BuI Tryz.prog 76 #[Value.int .u8 0, Value.int .u8 0, Value.int .u8 0, Value.int .u8 0, Value.int .u8 0, Value.int .u8 0, Value.int .u8 0, Value.int .u8 0, Value.int .i64 0] #[(0, 8), (8, 1)] := ⟨_, _, Tryz.zeroValue76, rfl, Tryz.runUnderlying76, fun w => by kernel_rfl⟩
theorem Wy6 : ∀ w, (Instr.build 182 #[]).run Tryz.prog w = .ok (Value.agg #[Value.map none, Value.map none, Value.map none, Value.map none, Value.map none, Value.map none, Value.map none, Value.map none]) w := fun w => by kernel_rfl
theorem Xc7 : ∀ w, (Instr.build 188 #[]).run Tryz.prog w = .ok (Value.agg #[Value.int .i64 0, Value.int .i64 0, Value.int .i64 0, Value.int .i64 0, Value.int .i64 0, Value.int .i64 0, Value.int .i64 0, Value.int .i64 0]) w := fun w => by kernel_rfl
theorem Yo6 : ∀ w, (Instr.build 29 #[]).run Tryz.prog w = .ok (Value.agg #[Value.slice none 0 0, Value.slice none 0 0]) w := fun w => by kernel_rfl
theorem Yi3 : ∀ w, (Instr.build 47 #[]).run Tryz.prog w = .ok (Value.agg #[Value.slice none 0 0]) w := fun w => by kernel_rfl
theorem Xf7 : ∀ w, (Instr.build 70 #[]).run Tryz.prog w = .ok (Value.agg #[Value.int .u8 0, Value.int .u8 0, Value.int .u8 0, Value.int .u8 0, Value.int .u8 0, Value.int .u8 0, Value.int .u8 0, Value.int .u8 0]) w := fun w => by kernel_rfl
theorem Wa6 : CoI Tryz.prog 3 5 .u8 := ⟨⟨_, Tryz.runUnderlying3⟩, Tryz.runUnderlying5⟩
theorem Xz2 : CoI Tryz.prog 5 2 .i64 := ⟨⟨_, Tryz.runUnderlying5⟩, Tryz.runUnderlying2⟩
theorem Va1 : CoI Tryz.prog 5 3 .i64 := ⟨⟨_, Tryz.runUnderlying5⟩, Tryz.runUnderlying3⟩
theorem Wp2 : Wv1 Tryz.prog 47 0 0 false 1 := ⟨_, _, Tryz.runUnderlying47, rfl, rfl, Tryz.isAgg45, Tryz.sizeOf45⟩
theorem Wl5 : Zx8 Tryz.prog 214 0 0 := ⟨fun b o w => by simp [Instr.fieldAt, Instr.sureAddr, fieldPlace, Tryz.runUnderlying214, Tryz.sizeOf22, D6]⟩
theorem Xr3 : Zx8 Tryz.prog 214 1 1 := ⟨fun b o w => by simp [Instr.fieldAt, Instr.sureAddr, fieldPlace, Tryz.runUnderlying214, Tryz.sizeOf22, D6]⟩
theorem Wh3 : Zx8 Tryz.prog 214 2 2 := ⟨fun b o w => by simp [Instr.fieldAt, Instr.sureAddr, fieldPlace, Tryz.runUnderlying214, Tryz.sizeOf184, D6]⟩
theorem Wk5 : Zx8 Tryz.prog 236 0 0 := ⟨fun b o w => by simp [Instr.fieldAt, Instr.sureAddr, fieldPlace, Tryz.runUnderlying236, Tryz.sizeOf69, D6]⟩
theorem Wj0 : Zx8 Tryz.prog 236 1 8 := ⟨fun b o w => by simp [Instr.fieldAt, Instr.sureAddr, fieldPlace, Tryz.runUnderlying236, Tryz.sizeOf2, D6]⟩
theorem Xw7 : Zx8 Tryz.prog 25 0 0 := ⟨fun b o w => by simp [Instr.fieldAt, Instr.sureAddr, fieldPlace, Tryz.runUnderlying25, Tryz.sizeOf22, D6]⟩
theorem Xv4 : Zx8 Tryz.prog 25 1 1 := ⟨fun b o w => by simp [Instr.fieldAt, Instr.sureAddr, fieldPlace, Tryz.runUnderlying25, Tryz.sizeOf23, D6]⟩
theorem R8 : Zx8 Tryz.prog 29 0 0 := ⟨fun b o w => by simp [Instr.fieldAt, Instr.sureAddr, fieldPlace, Tryz.runUnderlying29, Tryz.sizeOf22, D6]⟩
theorem N8 : Zx8 Tryz.prog 29 1 1 := ⟨fun b o w => by simp [Instr.fieldAt, Instr.sureAddr, fieldPlace, Tryz.runUnderlying29, Tryz.sizeOf27, D6]⟩
theorem Xv6 : Zx8 Tryz.prog 42 0 0 := ⟨fun b o w => by simp [Instr.fieldAt, Instr.sureAddr, fieldPlace, Tryz.runUnderlying42, Tryz.sizeOf40, D6]⟩
theorem U4 : Zx8 Tryz.prog 47 0 0 := ⟨fun b o w => by simp [Instr.fieldAt, Instr.sureAddr, fieldPlace, Tryz.runUnderlying47, Tryz.sizeOf45, D6]⟩
theorem N1 : Zx8 Tryz.prog 76 0 0 := ⟨fun b o w => by simp [Instr.fieldAt, Instr.sureAddr, fieldPlace, Tryz.runUnderlying76, Tryz.sizeOf70, D6]⟩
theorem Zd9 : Zx8 Tryz.prog 76 1 8 := ⟨fun b o w => by simp [Instr.fieldAt, Instr.sureAddr, fieldPlace, Tryz.runUnderlying76, Tryz.sizeOf2, D6]⟩
theorem Zh5 : Zz5 Tryz.prog 109 188 2 .i64 := Wy9 Tryz.underlying109 Tryz.underlying188 Tryz.underlying3 Tryz.info3_ rfl Tryz.zeroValue2
theorem Zo3 : SlI Tryz.prog 105 3 1 := ⟨Tryz.runUnderlying105, Tryz.sizeOf3⟩
theorem Xl8 : SlI Tryz.prog 120 188 8 := ⟨Tryz.runUnderlying120, Tryz.sizeOf188⟩
theorem Yc6 : SlI Tryz.prog 122 22 1 := ⟨Tryz.runUnderlying122, Tryz.sizeOf22⟩
theorem Yj1 : SlI Tryz.prog 184 109 1 := ⟨Tryz.runUnderlying184, Tryz.sizeOf109⟩
theorem Q2 : SlI Tryz.prog 22 2 1 := ⟨Tryz.runUnderlying22, Tryz.sizeOf2⟩
theorem Xf9 : SlI Tryz.prog 23 42 1 := ⟨Tryz.runUnderlying23, Tryz.sizeOf42⟩
theorem I1 : SlI Tryz.prog 27 47 1 := ⟨Tryz.runUnderlying27, Tryz.sizeOf47⟩
theorem Wa4 : SlI Tryz.prog 40 236 9 := ⟨Tryz.runUnderlying40, Tryz.sizeOf236⟩
theorem R5 : SlI Tryz.prog 45 76 9 := ⟨Tryz.runUnderlying45, Tryz.sizeOf76⟩
theorem Yc9 : TyI Tryz.prog 102 false 1 := ⟨Tryz.isAgg102, Tryz.sizeOf102⟩
theorem Wn2 : TyI Tryz.prog 105 false 1 := ⟨Tryz.isAgg105, Tryz.sizeOf105⟩
theorem Xd9 : TyI Tryz.prog 109 false 1 := ⟨Tryz.isAgg109, Tryz.sizeOf109⟩
theorem Xd8 : TyI Tryz.prog 182 true 8 := ⟨Tryz.isAgg182, Tryz.sizeOf182⟩
theorem Yu9 : TyI Tryz.prog 184 false 1 := ⟨Tryz.isAgg184, Tryz.sizeOf184⟩
theorem N4 : TyI Tryz.prog 188 true 8 := ⟨Tryz.isAgg188, Tryz.sizeOf188⟩
theorem ty2 : TyI Tryz.prog 2 false 1 := ⟨Tryz.isAgg2, Tryz.sizeOf2⟩
theorem K9 : TyI Tryz.prog 22 false 1 := ⟨Tryz.isAgg22, Tryz.sizeOf22⟩
theorem Ww5 : TyI Tryz.prog 23 false 1 := ⟨Tryz.isAgg23, Tryz.sizeOf23⟩
theorem Wy8 : TyI Tryz.prog 236 true 9 := ⟨Tryz.isAgg236, Tryz.sizeOf236⟩
theorem Xm1 : TyI Tryz.prog 25 true 2 := ⟨Tryz.isAgg25, Tryz.sizeOf25⟩
theorem Zf9 : TyI Tryz.prog 27 false 1 := ⟨Tryz.isAgg27, Tryz.sizeOf27⟩
theorem Q9 : TyI Tryz.prog 29 true 2 := ⟨Tryz.isAgg29, Tryz.sizeOf29⟩
theorem ty3 : TyI Tryz.prog 3 false 1 := ⟨Tryz.isAgg3, Tryz.sizeOf3⟩
theorem Ww6 : TyI Tryz.prog 40 false 1 := ⟨Tryz.isAgg40, Tryz.sizeOf40⟩
theorem Wy5 : TyI Tryz.prog 42 true 1 := ⟨Tryz.isAgg42, Tryz.sizeOf42⟩
theorem Q7 : TyI Tryz.prog 45 false 1 := ⟨Tryz.isAgg45, Tryz.sizeOf45⟩
theorem T1 : TyI Tryz.prog 47 true 1 := ⟨Tryz.isAgg47, Tryz.sizeOf47⟩
theorem ty5 : TyI Tryz.prog 5 false 1 := ⟨Tryz.isAgg5, Tryz.sizeOf5⟩
theorem Vb0 : TyI Tryz.prog 69 true 8 := ⟨Tryz.isAgg69, Tryz.sizeOf69⟩
theorem N6 : TyI Tryz.prog 70 true 8 := ⟨Tryz.isAgg70, Tryz.sizeOf70⟩
theorem Zu2 : TyI Tryz.prog 76 true 9 := ⟨Tryz.isAgg76, Tryz.sizeOf76⟩
theorem Wz8 : ZeI Tryz.prog 105 1 (Value.slice none 0 0) := ⟨Tryz.zeroValue105, Tryz.sizeOf105, rfl⟩
theorem Xf1 : ZeI Tryz.prog 109 1 (Value.map none) := ⟨Tryz.zeroValue109, Tryz.sizeOf109, rfl⟩
theorem Xz1 : ZeI Tryz.prog 182 8 (Value.agg #[Value.map none, Value.map none, Value.map none, Value.map none, Value.map none, Value.map none, Value.map none, Value.map none]) := ⟨Tryz.zeroValue182, Tryz.sizeOf182, rfl⟩
theorem Wz2 : ZeI Tryz.prog 184 1 (Value.slice none 0 0) := ⟨Tryz.zeroValue184, Tryz.sizeOf184, rfl⟩
theorem Zn3 : ZeI Tryz.prog 188 8 (Value.agg #[Value.int .i64 0, Value.int .i64 0, Value.int .i64 0, Value.int .i64 0, Value.int .i64 0, Value.int .i64 0, Value.int .i64 0, Value.int .i64 0]) := ⟨Tryz.zeroValue188, Tryz.sizeOf188, rfl⟩
theorem ze2 : ZeI Tryz.prog 2 1 (Value.int .i64 0) := ⟨Tryz.zeroValue2, Tryz.sizeOf2, rfl⟩
theorem Xm2 : ZeI Tryz.prog 22 1 (Value.slice none 0 0) := ⟨Tryz.zeroValue22, Tryz.sizeOf22, rfl⟩
theorem Zz0 : ZeI Tryz.prog 29 2 (Value.agg #[Value.slice none 0 0, Value.slice none 0 0]) := ⟨Tryz.zeroValue29, Tryz.sizeOf29, rfl⟩
theorem ze3 : ZeI Tryz.prog 3 1 (Value.int .i64 0) := ⟨Tryz.zeroValue3, Tryz.sizeOf3, rfl⟩
theorem Zd2 : ZeI Tryz.prog 47 1 (Value.agg #[Value.slice none 0 0]) := ⟨Tryz.zeroValue47, Tryz.sizeOf47, rfl⟩
theorem Yi6 : ZeI Tryz.prog 70 8 (Value.agg #[Value.int .u8 0, Value.int .u8 0, Value.int .u8 0, Value.int .u8 0, Value.int .u8 0, Value.int .u8 0, Value.int .u8 0, Value.int .u8 0]) := ⟨Tryz.zeroValue70, Tryz.sizeOf70, rfl⟩
theorem Yb1 : ZeI Tryz.prog 76 9 (Value.agg #[Value.int .u8 0, Value.int .u8 0, Value.int .u8 0, Value.int .u8 0, Value.int .u8 0, Value.int .u8 0, Value.int .u8 0, Value.int .u8 0, Value.int .i64 0]) := ⟨Tryz.zeroValue76, Tryz.sizeOf76, rfl⟩
end Go.Proofs.YtfodlhkoafhplaaGreat
