/- Walks of functions: each computes its pure function, if that gives a value. -/
import Derived.Test.YtfodlhkoafhplaaGreatVTy
import Derived.Test.YtfodlhkoafhplaaGreatVF8
import Derived.Test.YtfodlhkoafhplaaGreatVF7
import Derived.Test.YtfodlhkoafhplaaGreatVF11
import Derived.Test.YtfodlhkoafhplaaGreatVF2
import Derived.Test.YtfodlhkoafhplaaGreatVF17
import Derived.Test.YtfodlhkoafhplaaGreatVF18
namespace Go.Proofs.YtfodlhkoafhplaaGreat
open Go
set_option linter.unusedSimpArgs false
set_option linter.unusedVariables false
def L4 (K : Nat) (w0 : Int → (List MpT) → (List MpT) → Option (Ex (((List Int) × (List MpT)) × (List MpT) × Int) ((List MpT) × (List MpT)))) (a0 : ((List Int) × (List MpT))) (a1 : Int) (a2 : Int) (e7 : MpT) (c4 : ((List Int) × (List Int))) (c5 : (MpT × Int)) (r9 : (List MpT)) (a9 : Int) (b2 : (List MpT)) (b7 : (List MpT)) (f6 : Bool) : Option (Ex (((List Int) × (List MpT)) × (List MpT) × Int) ((List MpT) × (List MpT))) := (if f6 = true then w0 (a9 + 1) (b7 ++ [c5.1]) b2 else (if a9 < (a0.2.length : Int) then ((Zg3 K (rd a0.2 a9)).bind fun p7 => ((I8 K p7 (a0.1, a0.2) ((r9.set (a1).toNat ([] : MpT)).set (a2).toNat e7) c4.2 c4.1).bind fun e2 => (if e2.2 = 0 then (if b2.length + ([e2.1]).length ≤ 1099511627776 then w0 (a9 + 1) (b7 ++ [c5.1]) (b2 ++ [e2.1]) else none) else some (.ret ((([] : List Int), ([] : List MpT)), ([] : List MpT), e2.2))))) else none))
def T9 (K : Nat) (a0 : ((List Int) × (List MpT))) (a1 : Int) (a2 : Int) (e7 : MpT) (c4 : ((List Int) × (List Int))) (r9 : (List MpT)) : Nat → Int → (List MpT) → (List MpT) → Option (Ex (((List Int) × (List MpT)) × (List MpT) × Int) ((List MpT) × (List MpT)))
 | 0, _, _, _ => none
 | k + 1, a9, b7, b2 => (if a9 < (a0.1.length : Int) then ((F6 K a9).bind fun n9 => ((I8 K (G0 ([] : MpT) n9 1) (a0.1, a0.2) ((r9.set (a1).toNat ([] : MpT)).set (a2).toNat e7) c4.2 c4.1).bind fun c5 => (if c5.2 = 0 then (if b7.length + ([c5.1]).length ≤ 1099511627776 then (if a9 = a1 then L4 K (T9 K a0 a1 a2 e7 c4 r9 k) a0 a1 a2 e7 c4 c5 r9 a9 b2 b7 true else L4 K (T9 K a0 a1 a2 e7 c4 r9 k) a0 a1 a2 e7 c4 c5 r9 a9 b2 b7 (decide (a9 = a2))) else none) else some (.ret ((([] : List Int), ([] : List MpT)), ([] : List MpT), c5.2))))) else some (.go (b2, b7)))
def Zd0 (K : Nat) (a0 : ((List Int) × (List MpT))) (a1 : Int) (a2 : Int) : Option (((List Int) × (List MpT)) × (List MpT) × Int) := ((Zq5 K (a0.1.length : Int)).bind fun r9 => (if 0 ≤ a1 then (if a1 < (a0.2.length : Int) then ((Zg3 K (rd a0.2 a1)).bind fun k5 => ((F6 K a2).bind fun l2 => ((F6 K a2).bind fun p0 => (if a1 < (r9.length : Int) then ((Zb2 K a0.1 (Zh3 k5 p0) (r9.set (a1).toNat ([] : MpT))).bind fun o0 => ((Zr3 K (R2 k5 l2)).bind fun l3 => ((Zi9 K (IntKind.i64.wrap (0 - l3))).bind fun o1 => ((Q5 K ([] : MpT) o0 o1).bind fun e7 => (if 0 ≤ a2 then (if a2 < ((r9.set (a1).toNat ([] : MpT)).length : Int) then ((Ze3 K (a0.1, a0.2) ([a1, a2])).bind fun c4 => ((T9 K a0 a1 a2 e7 c4 r9 K 0 ([] : List MpT) ([] : List MpT)).bind (Ex.elim (fun r => some r) (fun s => (fun (e3 : (List MpT)) (f1 : (List MpT)) => some ((c4.1, e3), f1, 0)) s.1 s.2)))) else none) else none))))) else none)))) else none) else none))
end Go.Proofs.YtfodlhkoafhplaaGreat
