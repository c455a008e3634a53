/- Walks of functions: each computes its pure function, if that gives a value. -/
import Derived.Test.YtabofnehiclkiaaGreatXTy
import Derived.Test.YtabofnehiclkiaaGreatXF6
import Derived.Test.YtabofnehiclkiaaGreatXF12
import Derived.Test.YtabofnehiclkiaaGreatXF2
import Derived.Test.YtabofnehiclkiaaGreatXF1
import Derived.Test.YtabofnehiclkiaaGreatXF7
import Derived.Test.YtabofnehiclkiaaGreatXF3
import Derived.Test.YtabofnehiclkiaaGreatXF18
import Derived.Test.YtabofnehiclkiaaGreatXF9
import Derived.Test.YtabofnehiclkiaaGreatXF19
namespace Go.Proofs.YtabofnehiclkiaaGreat
open Go
set_option linter.unusedSimpArgs false
set_option linter.unusedVariables false
variable {K : Nat} {H : FH} {w : World} {L : OL} {s0 s1 s2 s3 s4 s5 s6 : Value}
def J6 (K : Nat) (u8 : Int → (List MpT) → (List MpT) → Option (Ex (((List Int) × (List MpT)) × (List MpT) × Int) ((List MpT) × (List MpT)))) (a0 : ((List Int) × (List MpT))) (a1 : Int) (a2 : Int) (e6 : MpT) (c4 : ((List Int) × (List Int))) (c5 : (MpT × Int)) (r9 : (List MpT)) (b0 : Int) (b2 : (List MpT)) (b7 : (List MpT)) (g0 : Bool) : Option (Ex (((List Int) × (List MpT)) × (List MpT) × Int) ((List MpT) × (List MpT))) := (if g0 = true then u8 (b0 + 1) (b7 ++ [c5.1]) b2 else (if b0 < (a0.2.length : Int) then ((Ze5 K (rd a0.2 b0)).bind fun v1 => ((E0 K v1 (a0.1, a0.2) ((r9.set (a1).toNat ([] : MpT)).set (a2).toNat e6) c4.2 c4.1).bind fun e7 => (if e7.2 = 0 then (if b2.length + ([e7.1]).length ≤ 1099511627776 then u8 (b0 + 1) (b7 ++ [c5.1]) (b2 ++ [e7.1]) else none) else some (.ret ((([] : List Int), ([] : List MpT)), ([] : List MpT), e7.2))))) else none))
def S8 (K : Nat) (a0 : ((List Int) × (List MpT))) (a1 : Int) (a2 : Int) (e6 : MpT) (c4 : ((List Int) × (List Int))) (r9 : (List MpT)) : Nat → Int → (List MpT) → (List MpT) → Option (Ex (((List Int) × (List MpT)) × (List MpT) × Int) ((List MpT) × (List MpT)))
 | 0, _, _, _ => none
 | k + 1, b0, b7, b2 => (if b0 < (a0.1.length : Int) then ((G8 K b0).bind fun n8 => ((E0 K (F6 ([] : MpT) n8 1) (a0.1, a0.2) ((r9.set (a1).toNat ([] : MpT)).set (a2).toNat e6) c4.2 c4.1).bind fun c5 => (if c5.2 = 0 then (if b7.length + ([c5.1]).length ≤ 1099511627776 then (if b0 = a1 then J6 K (S8 K a0 a1 a2 e6 c4 r9 k) a0 a1 a2 e6 c4 c5 r9 b0 b2 b7 true else J6 K (S8 K a0 a1 a2 e6 c4 r9 k) a0 a1 a2 e6 c4 c5 r9 b0 b2 b7 (decide (b0 = a2))) else none) else some (.ret ((([] : List Int), ([] : List MpT)), ([] : List MpT), c5.2))))) else some (.go (b2, b7)))
def Zg1 (K : Nat) (a0 : ((List Int) × (List MpT))) (a1 : Int) (a2 : Int) : Option (((List Int) × (List MpT)) × (List MpT) × Int) := ((Zu3 K (a0.1.length : Int)).bind fun r9 => (if 0 ≤ a1 then (if a1 < (a0.2.length : Int) then ((Ze5 K (rd a0.2 a1)).bind fun k6 => ((G8 K a2).bind fun l3 => ((G8 K a2).bind fun o9 => (if a1 < (r9.length : Int) then ((Zc5 K a0.1 (Zk5 k6 o9) (r9.set (a1).toNat ([] : MpT))).bind fun n9 => ((Zu5 K (Q1 k6 l3)).bind fun k7 => ((Zm8 K (IntKind.i64.wrap (0 - k7))).bind fun o0 => ((N0 K ([] : MpT) n9 o0).bind fun e6 => (if 0 ≤ a2 then (if a2 < ((r9.set (a1).toNat ([] : MpT)).length : Int) then ((Zh0 K (a0.1, a0.2) ([a1, a2])).bind fun c4 => ((S8 K a0 a1 a2 e6 c4 r9 K 0 ([] : List MpT) ([] : List MpT)).bind (Ex.elim (fun r => some r) (fun s => (fun (e2 : (List MpT)) (f0 : (List MpT)) => some ((c4.1, e2), f0, 0)) s.1 s.2)))) else none) else none))))) else none)))) else none) else none))
end Go.Proofs.YtabofnehiclkiaaGreat
