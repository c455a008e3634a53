/- Facts on the types of this program. -/
import Derived.KernelRfl
import Derived.Test.YtfodlhkoafhplaaGreatProg
import Derived.Test.YtfodlhkoafhplaaGreatSS3
namespace Go.Proofs.YtfodlhkoafhplaaGreat
open Go
set_option linter.unusedSimpArgs false
set_option linter.unusedVariables false
theorem mixed : Tryz.prog.follows .mixedOrders = true := by kernel_rfl
theorem Tryz.info109_ : Tryz.prog.info? 109 = some Tryz.t109 := by kernel_rfl
theorem Tryz.info188_ : Tryz.prog.info? 188 = some Tryz.t188 := by kernel_rfl
theorem Tryz.info2_ : Tryz.prog.info? 2 = some Tryz.t2 := by kernel_rfl
theorem Tryz.info3_ : Tryz.prog.info? 3 = some Tryz.t3 := by kernel_rfl
theorem Tryz.info47_ : Tryz.prog.info? 47 = some Tryz.t47 := by kernel_rfl
theorem Tryz.info76_ : Tryz.prog.info? 76 = some Tryz.t76 := by kernel_rfl
theorem ap120 : ApI Tryz.prog 120 188 8 64 (Value.agg #[Value.int .i64 0, Value.int .i64 0, Value.int .i64 0, Value.int .i64 0, Value.int .i64 0, Value.int .i64 0, Value.int .i64 0, Value.int .i64 0]) := ⟨Tryz.underlying120, ⟨_, Tryz.info188_, rfl, rfl, rfl⟩, rfl, by decide, by decide⟩
theorem ap184 : ApI Tryz.prog 184 109 1 8 (Value.map none) := ⟨Tryz.underlying184, ⟨_, Tryz.info109_, rfl, rfl, rfl⟩, rfl, by decide, by decide⟩
theorem ap22 : ApI Tryz.prog 22 2 1 8 (Value.int .i64 0) := ⟨Tryz.underlying22, ⟨_, Tryz.info2_, rfl, rfl, rfl⟩, rfl, by decide, by decide⟩
theorem ap27 : ApI Tryz.prog 27 47 1 24 (Value.agg #[Value.slice none 0 0]) := ⟨Tryz.underlying27, ⟨_, Tryz.info47_, rfl, rfl, rfl⟩, rfl, by decide, by decide⟩
theorem ap45 : ApI Tryz.prog 45 76 9 16 (Value.agg #[Value.int .u8 0, Value.int .u8 0, Value.int .u8 0, Value.int .u8 0, Value.int .u8 0, Value.int .u8 0, Value.int .u8 0, Value.int .u8 0, Value.int .i64 0]) := ⟨Tryz.underlying45, ⟨_, Tryz.info76_, rfl, rfl, rfl⟩, rfl, by decide, by decide⟩
theorem ar182 : ArI Tryz.prog 182 109 8 1 := ⟨Tryz.runUnderlying182, Tryz.sizeOf109, Tryz.isAgg109⟩
theorem ar188 : ArI Tryz.prog 188 3 8 1 := ⟨Tryz.runUnderlying188, Tryz.sizeOf3, Tryz.isAgg3⟩
theorem ar69 : ArI Tryz.prog 69 5 8 1 := ⟨Tryz.runUnderlying69, Tryz.sizeOf5, Tryz.isAgg5⟩
theorem ar70 : ArI Tryz.prog 70 5 8 1 := ⟨Tryz.runUnderlying70, Tryz.sizeOf5, Tryz.isAgg5⟩
theorem bu214 : BuI Tryz.prog 214 #[Value.slice none 0 0, Value.slice none 0 0, Value.slice none 0 0, Value.map none] #[(0, 1), (1, 1), (2, 1), (3, 1)] := ⟨_, _, Tryz.zeroValue214, rfl, Tryz.runUnderlying214, fun w => by kernel_rfl⟩
theorem bu29 : BuI Tryz.prog 29 #[Value.slice none 0 0, Value.slice none 0 0] #[(0, 1), (1, 1)] := ⟨_, _, Tryz.zeroValue29, rfl, Tryz.runUnderlying29, fun w => by kernel_rfl⟩
theorem bu47 : BuI Tryz.prog 47 #[Value.slice none 0 0] #[(0, 1)] := ⟨_, _, Tryz.zeroValue47, rfl, Tryz.runUnderlying47, fun w => by kernel_rfl⟩
theorem bu76 : BuI Tryz.prog 76 #[Value.int .u8 0, Value.int .u8 0, Value.int .u8 0, Value.int .u8 0, Value.int .u8 0, Value.int .u8 0, Value.int .u8 0, Value.int .u8 0, Value.int .i64 0] #[(0, 8), (8, 1)] := ⟨_, _, Tryz.zeroValue76, rfl, Tryz.runUnderlying76, fun w => by kernel_rfl⟩
theorem bz182 : ∀ w, (Instr.build 182 #[]).run Tryz.prog w = .ok (Value.agg #[Value.map none, Value.map none, Value.map none, Value.map none, Value.map none, Value.map none, Value.map none, Value.map none]) w := fun w => by kernel_rfl
theorem bz188 : ∀ w, (Instr.build 188 #[]).run Tryz.prog w = .ok (Value.agg #[Value.int .i64 0, Value.int .i64 0, Value.int .i64 0, Value.int .i64 0, Value.int .i64 0, Value.int .i64 0, Value.int .i64 0, Value.int .i64 0]) w := fun w => by kernel_rfl
theorem bz29 : ∀ w, (Instr.build 29 #[]).run Tryz.prog w = .ok (Value.agg #[Value.slice none 0 0, Value.slice none 0 0]) w := fun w => by kernel_rfl
theorem bz47 : ∀ w, (Instr.build 47 #[]).run Tryz.prog w = .ok (Value.agg #[Value.slice none 0 0]) w := fun w => by kernel_rfl
theorem bz70 : ∀ w, (Instr.build 70 #[]).run Tryz.prog w = .ok (Value.agg #[Value.int .u8 0, Value.int .u8 0, Value.int .u8 0, Value.int .u8 0, Value.int .u8 0, Value.int .u8 0, Value.int .u8 0, Value.int .u8 0]) w := fun w => by kernel_rfl
theorem co3_5 : CoI Tryz.prog 3 5 .u8 := ⟨⟨_, Tryz.runUnderlying3⟩, Tryz.runUnderlying5⟩
theorem co5_2 : CoI Tryz.prog 5 2 .i64 := ⟨⟨_, Tryz.runUnderlying5⟩, Tryz.runUnderlying2⟩
theorem co5_3 : CoI Tryz.prog 5 3 .i64 := ⟨⟨_, Tryz.runUnderlying5⟩, Tryz.runUnderlying3⟩
theorem fie47_0 : FieI Tryz.prog 47 0 0 false 1 := ⟨_, _, Tryz.runUnderlying47, rfl, rfl, Tryz.isAgg45, Tryz.sizeOf45⟩
theorem fld214_0 : FldI Tryz.prog 214 0 0 := ⟨fun b o w => by simp [Instr.fieldAt, Instr.sureAddr, fieldPlace, Tryz.runUnderlying214, Tryz.sizeOf22, add_addr]⟩
theorem fld214_1 : FldI Tryz.prog 214 1 1 := ⟨fun b o w => by simp [Instr.fieldAt, Instr.sureAddr, fieldPlace, Tryz.runUnderlying214, Tryz.sizeOf22, add_addr]⟩
theorem fld214_2 : FldI Tryz.prog 214 2 2 := ⟨fun b o w => by simp [Instr.fieldAt, Instr.sureAddr, fieldPlace, Tryz.runUnderlying214, Tryz.sizeOf184, add_addr]⟩
theorem fld236_0 : FldI Tryz.prog 236 0 0 := ⟨fun b o w => by simp [Instr.fieldAt, Instr.sureAddr, fieldPlace, Tryz.runUnderlying236, Tryz.sizeOf69, add_addr]⟩
theorem fld236_1 : FldI Tryz.prog 236 1 8 := ⟨fun b o w => by simp [Instr.fieldAt, Instr.sureAddr, fieldPlace, Tryz.runUnderlying236, Tryz.sizeOf2, add_addr]⟩
theorem fld25_0 : FldI Tryz.prog 25 0 0 := ⟨fun b o w => by simp [Instr.fieldAt, Instr.sureAddr, fieldPlace, Tryz.runUnderlying25, Tryz.sizeOf22, add_addr]⟩
theorem fld25_1 : FldI Tryz.prog 25 1 1 := ⟨fun b o w => by simp [Instr.fieldAt, Instr.sureAddr, fieldPlace, Tryz.runUnderlying25, Tryz.sizeOf23, add_addr]⟩
theorem fld29_0 : FldI Tryz.prog 29 0 0 := ⟨fun b o w => by simp [Instr.fieldAt, Instr.sureAddr, fieldPlace, Tryz.runUnderlying29, Tryz.sizeOf22, add_addr]⟩
theorem fld29_1 : FldI Tryz.prog 29 1 1 := ⟨fun b o w => by simp [Instr.fieldAt, Instr.sureAddr, fieldPlace, Tryz.runUnderlying29, Tryz.sizeOf27, add_addr]⟩
theorem fld42_0 : FldI Tryz.prog 42 0 0 := ⟨fun b o w => by simp [Instr.fieldAt, Instr.sureAddr, fieldPlace, Tryz.runUnderlying42, Tryz.sizeOf40, add_addr]⟩
theorem fld47_0 : FldI Tryz.prog 47 0 0 := ⟨fun b o w => by simp [Instr.fieldAt, Instr.sureAddr, fieldPlace, Tryz.runUnderlying47, Tryz.sizeOf45, add_addr]⟩
theorem fld76_0 : FldI Tryz.prog 76 0 0 := ⟨fun b o w => by simp [Instr.fieldAt, Instr.sureAddr, fieldPlace, Tryz.runUnderlying76, Tryz.sizeOf70, add_addr]⟩
theorem fld76_1 : FldI Tryz.prog 76 1 8 := ⟨fun b o w => by simp [Instr.fieldAt, Instr.sureAddr, fieldPlace, Tryz.runUnderlying76, Tryz.sizeOf2, add_addr]⟩
theorem mp109 : MapI Tryz.prog 109 188 2 .i64 := mapi8 Tryz.underlying109 Tryz.underlying188 Tryz.underlying3 Tryz.info3_ rfl Tryz.zeroValue2
theorem sl105 : SlI Tryz.prog 105 3 1 := ⟨Tryz.runUnderlying105, Tryz.sizeOf3⟩
theorem sl120 : SlI Tryz.prog 120 188 8 := ⟨Tryz.runUnderlying120, Tryz.sizeOf188⟩
theorem sl184 : SlI Tryz.prog 184 109 1 := ⟨Tryz.runUnderlying184, Tryz.sizeOf109⟩
theorem sl22 : SlI Tryz.prog 22 2 1 := ⟨Tryz.runUnderlying22, Tryz.sizeOf2⟩
theorem sl23 : SlI Tryz.prog 23 42 1 := ⟨Tryz.runUnderlying23, Tryz.sizeOf42⟩
theorem sl27 : SlI Tryz.prog 27 47 1 := ⟨Tryz.runUnderlying27, Tryz.sizeOf47⟩
theorem sl40 : SlI Tryz.prog 40 236 9 := ⟨Tryz.runUnderlying40, Tryz.sizeOf236⟩
theorem sl45 : SlI Tryz.prog 45 76 9 := ⟨Tryz.runUnderlying45, Tryz.sizeOf76⟩
theorem ty102 : TyI Tryz.prog 102 false 1 := ⟨Tryz.isAgg102, Tryz.sizeOf102⟩
theorem ty109 : TyI Tryz.prog 109 false 1 := ⟨Tryz.isAgg109, Tryz.sizeOf109⟩
theorem ty182 : TyI Tryz.prog 182 true 8 := ⟨Tryz.isAgg182, Tryz.sizeOf182⟩
theorem ty184 : TyI Tryz.prog 184 false 1 := ⟨Tryz.isAgg184, Tryz.sizeOf184⟩
theorem ty188 : TyI Tryz.prog 188 true 8 := ⟨Tryz.isAgg188, Tryz.sizeOf188⟩
theorem ty2 : TyI Tryz.prog 2 false 1 := ⟨Tryz.isAgg2, Tryz.sizeOf2⟩
theorem ty22 : TyI Tryz.prog 22 false 1 := ⟨Tryz.isAgg22, Tryz.sizeOf22⟩
theorem ty23 : TyI Tryz.prog 23 false 1 := ⟨Tryz.isAgg23, Tryz.sizeOf23⟩
theorem ty236 : TyI Tryz.prog 236 true 9 := ⟨Tryz.isAgg236, Tryz.sizeOf236⟩
theorem ty25 : TyI Tryz.prog 25 true 2 := ⟨Tryz.isAgg25, Tryz.sizeOf25⟩
theorem ty27 : TyI Tryz.prog 27 false 1 := ⟨Tryz.isAgg27, Tryz.sizeOf27⟩
theorem ty29 : TyI Tryz.prog 29 true 2 := ⟨Tryz.isAgg29, Tryz.sizeOf29⟩
theorem ty3 : TyI Tryz.prog 3 false 1 := ⟨Tryz.isAgg3, Tryz.sizeOf3⟩
theorem ty40 : TyI Tryz.prog 40 false 1 := ⟨Tryz.isAgg40, Tryz.sizeOf40⟩
theorem ty42 : TyI Tryz.prog 42 true 1 := ⟨Tryz.isAgg42, Tryz.sizeOf42⟩
theorem ty45 : TyI Tryz.prog 45 false 1 := ⟨Tryz.isAgg45, Tryz.sizeOf45⟩
theorem ty47 : TyI Tryz.prog 47 true 1 := ⟨Tryz.isAgg47, Tryz.sizeOf47⟩
theorem ty5 : TyI Tryz.prog 5 false 1 := ⟨Tryz.isAgg5, Tryz.sizeOf5⟩
theorem ty69 : TyI Tryz.prog 69 true 8 := ⟨Tryz.isAgg69, Tryz.sizeOf69⟩
theorem ty70 : TyI Tryz.prog 70 true 8 := ⟨Tryz.isAgg70, Tryz.sizeOf70⟩
theorem ty76 : TyI Tryz.prog 76 true 9 := ⟨Tryz.isAgg76, Tryz.sizeOf76⟩
theorem ze109 : ZeI Tryz.prog 109 1 (Value.map none) := ⟨Tryz.zeroValue109, Tryz.sizeOf109, rfl⟩
theorem ze182 : ZeI Tryz.prog 182 8 (Value.agg #[Value.map none, Value.map none, Value.map none, Value.map none, Value.map none, Value.map none, Value.map none, Value.map none]) := ⟨Tryz.zeroValue182, Tryz.sizeOf182, rfl⟩
theorem ze188 : ZeI Tryz.prog 188 8 (Value.agg #[Value.int .i64 0, Value.int .i64 0, Value.int .i64 0, Value.int .i64 0, Value.int .i64 0, Value.int .i64 0, Value.int .i64 0, Value.int .i64 0]) := ⟨Tryz.zeroValue188, Tryz.sizeOf188, rfl⟩
theorem ze2 : ZeI Tryz.prog 2 1 (Value.int .i64 0) := ⟨Tryz.zeroValue2, Tryz.sizeOf2, rfl⟩
theorem ze29 : ZeI Tryz.prog 29 2 (Value.agg #[Value.slice none 0 0, Value.slice none 0 0]) := ⟨Tryz.zeroValue29, Tryz.sizeOf29, rfl⟩
theorem ze47 : ZeI Tryz.prog 47 1 (Value.agg #[Value.slice none 0 0]) := ⟨Tryz.zeroValue47, Tryz.sizeOf47, rfl⟩
theorem ze70 : ZeI Tryz.prog 70 8 (Value.agg #[Value.int .u8 0, Value.int .u8 0, Value.int .u8 0, Value.int .u8 0, Value.int .u8 0, Value.int .u8 0, Value.int .u8 0, Value.int .u8 0]) := ⟨Tryz.zeroValue70, Tryz.sizeOf70, rfl⟩
theorem ze76 : ZeI Tryz.prog 76 9 (Value.agg #[Value.int .u8 0, Value.int .u8 0, Value.int .u8 0, Value.int .u8 0, Value.int .u8 0, Value.int .u8 0, Value.int .u8 0, Value.int .u8 0, Value.int .i64 0]) := ⟨Tryz.zeroValue76, Tryz.sizeOf76, rfl⟩
end Go.Proofs.YtfodlhkoafhplaaGreat
