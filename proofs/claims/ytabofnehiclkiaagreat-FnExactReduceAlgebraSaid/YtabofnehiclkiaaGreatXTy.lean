/- Facts on the types of this program. -/
import Derived.KernelRfl
import Derived.Test.YtabofnehiclkiaaGreatProg
import Derived.Test.YtabofnehiclkiaaGreatXS3
namespace Go.Proofs.YtabofnehiclkiaaGreat
open Go
set_option linter.unusedSimpArgs false
set_option linter.unusedVariables false
theorem mixed : Tryz.prog.follows .mixedOrders = true := by kernel_rfl
theorem Tryz.info107_ : Tryz.prog.info? 107 = some Tryz.t107 := by kernel_rfl
theorem Tryz.info222_ : Tryz.prog.info? 222 = some Tryz.t222 := by kernel_rfl
theorem Tryz.info22_ : Tryz.prog.info? 22 = some Tryz.t22 := by kernel_rfl
theorem Tryz.info2_ : Tryz.prog.info? 2 = some Tryz.t2 := by kernel_rfl
theorem Tryz.info3_ : Tryz.prog.info? 3 = some Tryz.t3 := by kernel_rfl
theorem Tryz.info45_ : Tryz.prog.info? 45 = some Tryz.t45 := by kernel_rfl
theorem Tryz.info5_ : Tryz.prog.info? 5 = some Tryz.t5 := by kernel_rfl
theorem Tryz.info78_ : Tryz.prog.info? 78 = some Tryz.t78 := by kernel_rfl
theorem Wu0 : ApI Tryz.prog 100 22 1 24 (Value.slice none 0 0) := ⟨Tryz.underlying100, ⟨_, Tryz.info22_, rfl, rfl, rfl⟩, rfl, by decide, by decide⟩
theorem Xd5 : ApI Tryz.prog 22 2 1 8 (Value.int .i64 0) := ⟨Tryz.underlying22, ⟨_, Tryz.info2_, rfl, rfl, rfl⟩, rfl, by decide, by decide⟩
theorem Xr4 : ApI Tryz.prog 255 107 1 8 (Value.map none) := ⟨Tryz.underlying255, ⟨_, Tryz.info107_, rfl, rfl, rfl⟩, rfl, by decide, by decide⟩
theorem Wt8 : ApI Tryz.prog 266 3 1 8 (Value.int .i64 0) := ⟨Tryz.underlying266, ⟨_, Tryz.info3_, rfl, rfl, rfl⟩, rfl, by decide, by decide⟩
theorem Yl7 : ApI Tryz.prog 29 45 1 24 (Value.agg #[Value.slice none 0 0]) := ⟨Tryz.underlying29, ⟨_, Tryz.info45_, rfl, rfl, rfl⟩, rfl, by decide, by decide⟩
theorem Yw2 : ApI Tryz.prog 43 78 9 16 (Value.agg #[Value.int .u8 0, Value.int .u8 0, Value.int .u8 0, Value.int .u8 0, Value.int .u8 0, Value.int .u8 0, Value.int .u8 0, Value.int .u8 0, Value.int .i64 0]) := ⟨Tryz.underlying43, ⟨_, Tryz.info78_, rfl, rfl, rfl⟩, rfl, by decide, by decide⟩
theorem Vi9 : ApI Tryz.prog 62 5 1 1 (Value.int .u8 0) := ⟨Tryz.underlying62, ⟨_, Tryz.info5_, rfl, rfl, rfl⟩, rfl, by decide, by decide⟩
theorem Vi5 : ApI Tryz.prog 98 222 8 64 (Value.agg #[Value.int .i64 0, Value.int .i64 0, Value.int .i64 0, Value.int .i64 0, Value.int .i64 0, Value.int .i64 0, Value.int .i64 0, Value.int .i64 0]) := ⟨Tryz.underlying98, ⟨_, Tryz.info222_, rfl, rfl, rfl⟩, rfl, by decide, by decide⟩
theorem Zm2 : ArI Tryz.prog 222 3 8 1 := ⟨Tryz.runUnderlying222, Tryz.sizeOf3, Tryz.isAgg3⟩
theorem Wt6 : ArI Tryz.prog 237 107 8 1 := ⟨Tryz.runUnderlying237, Tryz.sizeOf107, Tryz.isAgg107⟩
theorem Vj0 : ArI Tryz.prog 71 5 8 1 := ⟨Tryz.runUnderlying71, Tryz.sizeOf5, Tryz.isAgg5⟩
theorem Zd9 : ArI Tryz.prog 72 5 8 1 := ⟨Tryz.runUnderlying72, Tryz.sizeOf5, Tryz.isAgg5⟩
theorem We2 : BuI Tryz.prog 257 #[Value.slice none 0 0, Value.slice none 0 0, Value.slice none 0 0, Value.map none] #[(0, 1), (1, 1), (2, 1), (3, 1)] := ⟨_, _, Tryz.zeroValue257, rfl, Tryz.runUnderlying257, fun w => by kernel_rfl⟩
theorem We6 : BuI Tryz.prog 31 #[Value.slice none 0 0, Value.slice none 0 0] #[(0, 1), (1, 1)] := ⟨_, _, Tryz.zeroValue31, rfl, Tryz.runUnderlying31, fun w => by kernel_rfl⟩
theorem Vi6 : BuI Tryz.prog 45 #[Value.slice none 0 0] #[(0, 1)] := ⟨_, _, Tryz.zeroValue45, rfl, Tryz.runUnderlying45, fun w => by kernel_rfl⟩
theorem Xf8 : BuI Tryz.prog 78 #[Value.int .u8 0, Value.int .u8 0, Value.int .u8 0, Value.int .u8 0, Value.int .u8 0, Value.int .u8 0, Value.int .u8 0, Value.int .u8 0, Value.int .i64 0] #[(0, 8), (8, 1)] := ⟨_, _, Tryz.zeroValue78, rfl, Tryz.runUnderlying78, fun w => by kernel_rfl⟩
theorem Xh3 : ∀ w, (Instr.build 222 #[]).run Tryz.prog w = .ok (Value.agg #[Value.int .i64 0, Value.int .i64 0, Value.int .i64 0, Value.int .i64 0, Value.int .i64 0, Value.int .i64 0, Value.int .i64 0, Value.int .i64 0]) w := fun w => by kernel_rfl
theorem Vg8 : ∀ w, (Instr.build 237 #[]).run Tryz.prog w = .ok (Value.agg #[Value.map none, Value.map none, Value.map none, Value.map none, Value.map none, Value.map none, Value.map none, Value.map none]) w := fun w => by kernel_rfl
theorem Yl4 : ∀ w, (Instr.build 31 #[]).run Tryz.prog w = .ok (Value.agg #[Value.slice none 0 0, Value.slice none 0 0]) w := fun w => by kernel_rfl
theorem Yf8 : ∀ w, (Instr.build 45 #[]).run Tryz.prog w = .ok (Value.agg #[Value.slice none 0 0]) w := fun w => by kernel_rfl
theorem Yx8 : ∀ w, (Instr.build 72 #[]).run Tryz.prog w = .ok (Value.agg #[Value.int .u8 0, Value.int .u8 0, Value.int .u8 0, Value.int .u8 0, Value.int .u8 0, Value.int .u8 0, Value.int .u8 0, Value.int .u8 0]) w := fun w => by kernel_rfl
theorem Wd8 : CoI Tryz.prog 3 5 .u8 := ⟨⟨_, Tryz.runUnderlying3⟩, Tryz.runUnderlying5⟩
theorem Wg5 : CoI Tryz.prog 5 2 .i64 := ⟨⟨_, Tryz.runUnderlying5⟩, Tryz.runUnderlying2⟩
theorem Vg5 : CoI Tryz.prog 5 3 .i64 := ⟨⟨_, Tryz.runUnderlying5⟩, Tryz.runUnderlying3⟩
theorem Ww4 : Vf7 Tryz.prog 45 0 0 false 1 := ⟨_, _, Tryz.runUnderlying45, rfl, rfl, Tryz.isAgg43, Tryz.sizeOf43⟩
theorem Wr6 : Yb7 Tryz.prog 199 0 0 := ⟨fun b o w => by simp [Instr.fieldAt, Instr.sureAddr, fieldPlace, Tryz.runUnderlying199, Tryz.sizeOf71, G9]⟩
theorem Wp3 : Yb7 Tryz.prog 199 1 8 := ⟨fun b o w => by simp [Instr.fieldAt, Instr.sureAddr, fieldPlace, Tryz.runUnderlying199, Tryz.sizeOf2, G9]⟩
theorem Wr3 : Yb7 Tryz.prog 257 0 0 := ⟨fun b o w => by simp [Instr.fieldAt, Instr.sureAddr, fieldPlace, Tryz.runUnderlying257, Tryz.sizeOf22, G9]⟩
theorem Xx5 : Yb7 Tryz.prog 257 1 1 := ⟨fun b o w => by simp [Instr.fieldAt, Instr.sureAddr, fieldPlace, Tryz.runUnderlying257, Tryz.sizeOf22, G9]⟩
theorem Xg3 : Yb7 Tryz.prog 257 2 2 := ⟨fun b o w => by simp [Instr.fieldAt, Instr.sureAddr, fieldPlace, Tryz.runUnderlying257, Tryz.sizeOf255, G9]⟩
theorem Wc1 : Yb7 Tryz.prog 25 0 0 := ⟨fun b o w => by simp [Instr.fieldAt, Instr.sureAddr, fieldPlace, Tryz.runUnderlying25, Tryz.sizeOf22, G9]⟩
theorem Wc5 : Yb7 Tryz.prog 25 1 1 := ⟨fun b o w => by simp [Instr.fieldAt, Instr.sureAddr, fieldPlace, Tryz.runUnderlying25, Tryz.sizeOf23, G9]⟩
theorem R4 : Yb7 Tryz.prog 31 0 0 := ⟨fun b o w => by simp [Instr.fieldAt, Instr.sureAddr, fieldPlace, Tryz.runUnderlying31, Tryz.sizeOf22, G9]⟩
theorem P2 : Yb7 Tryz.prog 31 1 1 := ⟨fun b o w => by simp [Instr.fieldAt, Instr.sureAddr, fieldPlace, Tryz.runUnderlying31, Tryz.sizeOf29, G9]⟩
theorem Wb9 : Yb7 Tryz.prog 40 0 0 := ⟨fun b o w => by simp [Instr.fieldAt, Instr.sureAddr, fieldPlace, Tryz.runUnderlying40, Tryz.sizeOf38, G9]⟩
theorem V9 : Yb7 Tryz.prog 45 0 0 := ⟨fun b o w => by simp [Instr.fieldAt, Instr.sureAddr, fieldPlace, Tryz.runUnderlying45, Tryz.sizeOf43, G9]⟩
theorem M1 : Yb7 Tryz.prog 78 0 0 := ⟨fun b o w => by simp [Instr.fieldAt, Instr.sureAddr, fieldPlace, Tryz.runUnderlying78, Tryz.sizeOf72, G9]⟩
theorem Ze2 : Yb7 Tryz.prog 78 1 8 := ⟨fun b o w => by simp [Instr.fieldAt, Instr.sureAddr, fieldPlace, Tryz.runUnderlying78, Tryz.sizeOf2, G9]⟩
theorem Zi9 : Ye2 Tryz.prog 107 222 2 .i64 := Vh1 Tryz.underlying107 Tryz.underlying222 Tryz.underlying3 Tryz.info3_ rfl Tryz.zeroValue2
theorem Yg7 : SlI Tryz.prog 100 22 1 := ⟨Tryz.runUnderlying100, Tryz.sizeOf22⟩
theorem Q0 : SlI Tryz.prog 22 2 1 := ⟨Tryz.runUnderlying22, Tryz.sizeOf2⟩
theorem Xl8 : SlI Tryz.prog 23 40 1 := ⟨Tryz.runUnderlying23, Tryz.sizeOf40⟩
theorem Yj5 : SlI Tryz.prog 255 107 1 := ⟨Tryz.runUnderlying255, Tryz.sizeOf107⟩
theorem Zs6 : SlI Tryz.prog 266 3 1 := ⟨Tryz.runUnderlying266, Tryz.sizeOf3⟩
theorem P6 : SlI Tryz.prog 29 45 1 := ⟨Tryz.runUnderlying29, Tryz.sizeOf45⟩
theorem Wf8 : SlI Tryz.prog 38 199 9 := ⟨Tryz.runUnderlying38, Tryz.sizeOf199⟩
theorem R7 : SlI Tryz.prog 43 78 9 := ⟨Tryz.runUnderlying43, Tryz.sizeOf78⟩
theorem Wf9 : SlI Tryz.prog 98 222 8 := ⟨Tryz.runUnderlying98, Tryz.sizeOf222⟩
theorem Xi8 : TyI Tryz.prog 107 false 1 := ⟨Tryz.isAgg107, Tryz.sizeOf107⟩
theorem Vh7 : TyI Tryz.prog 199 true 9 := ⟨Tryz.isAgg199, Tryz.sizeOf199⟩
theorem ty2 : TyI Tryz.prog 2 false 1 := ⟨Tryz.isAgg2, Tryz.sizeOf2⟩
theorem M9 : TyI Tryz.prog 22 false 1 := ⟨Tryz.isAgg22, Tryz.sizeOf22⟩
theorem K2 : TyI Tryz.prog 222 true 8 := ⟨Tryz.isAgg222, Tryz.sizeOf222⟩
theorem Vc5 : TyI Tryz.prog 23 false 1 := ⟨Tryz.isAgg23, Tryz.sizeOf23⟩
theorem Xj1 : TyI Tryz.prog 237 true 8 := ⟨Tryz.isAgg237, Tryz.sizeOf237⟩
theorem Xy3 : TyI Tryz.prog 25 true 2 := ⟨Tryz.isAgg25, Tryz.sizeOf25⟩
theorem Yn4 : TyI Tryz.prog 255 false 1 := ⟨Tryz.isAgg255, Tryz.sizeOf255⟩
theorem Wt3 : TyI Tryz.prog 266 false 1 := ⟨Tryz.isAgg266, Tryz.sizeOf266⟩
theorem Zd6 : TyI Tryz.prog 29 false 1 := ⟨Tryz.isAgg29, Tryz.sizeOf29⟩
theorem ty3 : TyI Tryz.prog 3 false 1 := ⟨Tryz.isAgg3, Tryz.sizeOf3⟩
theorem S5 : TyI Tryz.prog 31 true 2 := ⟨Tryz.isAgg31, Tryz.sizeOf31⟩
theorem Ve8 : TyI Tryz.prog 38 false 1 := ⟨Tryz.isAgg38, Tryz.sizeOf38⟩
theorem Vf9 : TyI Tryz.prog 40 true 1 := ⟨Tryz.isAgg40, Tryz.sizeOf40⟩
theorem Q4 : TyI Tryz.prog 43 false 1 := ⟨Tryz.isAgg43, Tryz.sizeOf43⟩
theorem U2 : TyI Tryz.prog 45 true 1 := ⟨Tryz.isAgg45, Tryz.sizeOf45⟩
theorem ty5 : TyI Tryz.prog 5 false 1 := ⟨Tryz.isAgg5, Tryz.sizeOf5⟩
theorem Vj1 : TyI Tryz.prog 71 true 8 := ⟨Tryz.isAgg71, Tryz.sizeOf71⟩
theorem M2 : TyI Tryz.prog 72 true 8 := ⟨Tryz.isAgg72, Tryz.sizeOf72⟩
theorem Zt9 : TyI Tryz.prog 78 true 9 := ⟨Tryz.isAgg78, Tryz.sizeOf78⟩
theorem Yo5 : TyI Tryz.prog 94 false 1 := ⟨Tryz.isAgg94, Tryz.sizeOf94⟩
theorem Xa8 : ZeI Tryz.prog 107 1 (Value.map none) := ⟨Tryz.zeroValue107, Tryz.sizeOf107, rfl⟩
theorem ze2 : ZeI Tryz.prog 2 1 (Value.int .i64 0) := ⟨Tryz.zeroValue2, Tryz.sizeOf2, rfl⟩
theorem Xv4 : ZeI Tryz.prog 22 1 (Value.slice none 0 0) := ⟨Tryz.zeroValue22, Tryz.sizeOf22, rfl⟩
theorem Zr2 : ZeI Tryz.prog 222 8 (Value.agg #[Value.int .i64 0, Value.int .i64 0, Value.int .i64 0, Value.int .i64 0, Value.int .i64 0, Value.int .i64 0, Value.int .i64 0, Value.int .i64 0]) := ⟨Tryz.zeroValue222, Tryz.sizeOf222, rfl⟩
theorem Wf0 : ZeI Tryz.prog 237 8 (Value.agg #[Value.map none, Value.map none, Value.map none, Value.map none, Value.map none, Value.map none, Value.map none, Value.map none]) := ⟨Tryz.zeroValue237, Tryz.sizeOf237, rfl⟩
theorem Vi4 : ZeI Tryz.prog 255 1 (Value.slice none 0 0) := ⟨Tryz.zeroValue255, Tryz.sizeOf255, rfl⟩
theorem Vi1 : ZeI Tryz.prog 266 1 (Value.slice none 0 0) := ⟨Tryz.zeroValue266, Tryz.sizeOf266, rfl⟩
theorem ze3 : ZeI Tryz.prog 3 1 (Value.int .i64 0) := ⟨Tryz.zeroValue3, Tryz.sizeOf3, rfl⟩
theorem Zr4 : ZeI Tryz.prog 31 2 (Value.agg #[Value.slice none 0 0, Value.slice none 0 0]) := ⟨Tryz.zeroValue31, Tryz.sizeOf31, rfl⟩
theorem I0 : ZeI Tryz.prog 45 1 (Value.agg #[Value.slice none 0 0]) := ⟨Tryz.zeroValue45, Tryz.sizeOf45, rfl⟩
theorem Yf9 : ZeI Tryz.prog 72 8 (Value.agg #[Value.int .u8 0, Value.int .u8 0, Value.int .u8 0, Value.int .u8 0, Value.int .u8 0, Value.int .u8 0, Value.int .u8 0, Value.int .u8 0]) := ⟨Tryz.zeroValue72, Tryz.sizeOf72, rfl⟩
theorem Ya6 : ZeI Tryz.prog 78 9 (Value.agg #[Value.int .u8 0, Value.int .u8 0, Value.int .u8 0, Value.int .u8 0, Value.int .u8 0, Value.int .u8 0, Value.int .u8 0, Value.int .u8 0, Value.int .i64 0]) := ⟨Tryz.zeroValue78, Tryz.sizeOf78, rfl⟩
end Go.Proofs.YtabofnehiclkiaaGreat
