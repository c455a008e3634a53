/-
  No cell of these rows narrows 'for every input' (looked for: loops, veiled, ifaces, maps, wideKeys, modest, calm, conditions, laid).
  DERIVED. THE GIVEN ROWS OF THIS SEAT. 12 by the template 'for every input the law returns true; each argument reads behind the call as it read before'; 0 by the template 'total and deterministic' (their statements: YtabofnehiclkiaaGreatTotals.lean).
  GIVEN WITH THE SEED: the statements are not yours to turn. If you find one false, say at which input.
  Laid BY PROGRAM, IN A SANDBOX (cutbox-rows.mjs): the forced cells as the released guide's own fill.sh prints them over the translation 8ea61fc30369f5e0… (all of the seat's roots in one cut). By AI agents, Wed Nov 11 2026. No macro, syntax, notation, axiom, sorry.
-/
import Derived.Test.YtabofnehiclkiaaGreatChecked
import GoSem.Claim
import GoSem.ClaimJoined
import GoSem.ClaimMapViews
import Derived.JoinedTies
import Derived.KernelRfl
namespace Go.Proofs.YtabofnehiclkiaaGreat
/- THE CELL 'sum', in the pinned program and in every row, IS THE sha256 OF THE DUMP (.gsa) THAT YtabofnehiclkiaaGreatProg.lean LOADS. Nothing in Lean hashes anything: it is a label: what it is worth is what the hold of that sum in a sandbox is worth. -/
noncomputable def Tryz.pinned : Pinned := { name := "ytabofnehiclkiaagreat", sum := "8ea61fc30369f5e0f4f42a5ada6cb9a0377d147068007e9c4e83f8bb91be0873", checked := Tryz.checked }
namespace Rows
def none {H : Type} : Left H := { results := [], args := [] }

/-- 'laws.FnExactFirstTriple': WHATEVER THE INPUT: true; the input reads as it did. -/
def fnExactFirstTripleSpec : ChangeSpec := { name := "fnExactFirstTriple", fn := fun _ => fun
  | [d1, d2] => { results := [.lit (.bool true)], args := [d1, d2] }
  | _ => none }
def fnExactFirstTripleRow : OpenClaim := { program := "ytabofnehiclkiaagreat", sum := "8ea61fc30369f5e0f4f42a5ada6cb9a0377d147068007e9c4e83f8bb91be0873", func := "loop.example/g01219/laws.FnExactFirstTriple", spec := "fnExactFirstTriple", unfollowed := true, recurses := true, plainKeys := false, apart := false }
def FnExactFirstTripleSaid : Prop := fnExactFirstTripleRow.holds Tryz.pinned (OpenSpec.ofChange fnExactFirstTripleSpec)

/-- ITS FALSE NEIGHBOUR: 'it returns false'. Refute it at one input. -/
def fnExactFirstTripleWrong : ChangeSpec := { name := "fnExactFirstTriple", fn := fun _ => fun
  | [d1, d2] => { results := [.lit (.bool false)], args := [d1, d2] }
  | _ => none }
def FnExactFirstTripleWrongFalsely : Prop := fnExactFirstTripleRow.holds Tryz.pinned (OpenSpec.ofChange fnExactFirstTripleWrong)

/-- 'laws.FnExactTripleClass': WHATEVER THE INPUT: true; the input reads as it did. -/
def fnExactTripleClassSpec : ChangeSpec := { name := "fnExactTripleClass", fn := fun _ => fun
  | [d1, d2, d3, d4] => { results := [.lit (.bool true)], args := [d1, d2, d3, d4] }
  | _ => none }
def fnExactTripleClassRow : OpenClaim := { program := "ytabofnehiclkiaagreat", sum := "8ea61fc30369f5e0f4f42a5ada6cb9a0377d147068007e9c4e83f8bb91be0873", func := "loop.example/g01219/laws.FnExactTripleClass", spec := "fnExactTripleClass", unfollowed := true, recurses := true, plainKeys := false, apart := false }
def FnExactTripleClassSaid : Prop := fnExactTripleClassRow.holds Tryz.pinned (OpenSpec.ofChange fnExactTripleClassSpec)

/-- ITS FALSE NEIGHBOUR: 'it returns false'. Refute it at one input. -/
def fnExactTripleClassWrong : ChangeSpec := { name := "fnExactTripleClass", fn := fun _ => fun
  | [d1, d2, d3, d4] => { results := [.lit (.bool false)], args := [d1, d2, d3, d4] }
  | _ => none }
def FnExactTripleClassWrongFalsely : Prop := fnExactTripleClassRow.holds Tryz.pinned (OpenSpec.ofChange fnExactTripleClassWrong)

/-- 'laws.FnExactBoundaryForms': WHATEVER THE INPUT: true; the input reads as it did. -/
def fnExactBoundaryFormsSpec : ChangeSpec := { name := "fnExactBoundaryForms", fn := fun _ => fun
  | [d1, d2] => { results := [.lit (.bool true)], args := [d1, d2] }
  | _ => none }
def fnExactBoundaryFormsRow : OpenClaim := { program := "ytabofnehiclkiaagreat", sum := "8ea61fc30369f5e0f4f42a5ada6cb9a0377d147068007e9c4e83f8bb91be0873", func := "loop.example/g01219/laws.FnExactBoundaryForms", spec := "fnExactBoundaryForms", unfollowed := true, recurses := true, plainKeys := false, apart := false }
def FnExactBoundaryFormsSaid : Prop := fnExactBoundaryFormsRow.holds Tryz.pinned (OpenSpec.ofChange fnExactBoundaryFormsSpec)

/-- ITS FALSE NEIGHBOUR: 'it returns false'. Refute it at one input. -/
def fnExactBoundaryFormsWrong : ChangeSpec := { name := "fnExactBoundaryForms", fn := fun _ => fun
  | [d1, d2] => { results := [.lit (.bool false)], args := [d1, d2] }
  | _ => none }
def FnExactBoundaryFormsWrongFalsely : Prop := fnExactBoundaryFormsRow.holds Tryz.pinned (OpenSpec.ofChange fnExactBoundaryFormsWrong)

/-- 'laws.FnExactClosedForms': WHATEVER THE INPUT: true; the input reads as it did. -/
def fnExactClosedFormsSpec : ChangeSpec := { name := "fnExactClosedForms", fn := fun _ => fun
  | [d1, d2] => { results := [.lit (.bool true)], args := [d1, d2] }
  | _ => none }
def fnExactClosedFormsRow : OpenClaim := { program := "ytabofnehiclkiaagreat", sum := "8ea61fc30369f5e0f4f42a5ada6cb9a0377d147068007e9c4e83f8bb91be0873", func := "loop.example/g01219/laws.FnExactClosedForms", spec := "fnExactClosedForms", unfollowed := true, recurses := true, plainKeys := false, apart := false }
def FnExactClosedFormsSaid : Prop := fnExactClosedFormsRow.holds Tryz.pinned (OpenSpec.ofChange fnExactClosedFormsSpec)

/-- ITS FALSE NEIGHBOUR: 'it returns false'. Refute it at one input. -/
def fnExactClosedFormsWrong : ChangeSpec := { name := "fnExactClosedForms", fn := fun _ => fun
  | [d1, d2] => { results := [.lit (.bool false)], args := [d1, d2] }
  | _ => none }
def FnExactClosedFormsWrongFalsely : Prop := fnExactClosedFormsRow.holds Tryz.pinned (OpenSpec.ofChange fnExactClosedFormsWrong)

/-- 'laws.FnExactClassForms': WHATEVER THE INPUT: true; the input reads as it did. -/
def fnExactClassFormsSpec : ChangeSpec := { name := "fnExactClassForms", fn := fun _ => fun
  | [d1, d2] => { results := [.lit (.bool true)], args := [d1, d2] }
  | _ => none }
def fnExactClassFormsRow : OpenClaim := { program := "ytabofnehiclkiaagreat", sum := "8ea61fc30369f5e0f4f42a5ada6cb9a0377d147068007e9c4e83f8bb91be0873", func := "loop.example/g01219/laws.FnExactClassForms", spec := "fnExactClassForms", unfollowed := true, recurses := true, plainKeys := false, apart := false }
def FnExactClassFormsSaid : Prop := fnExactClassFormsRow.holds Tryz.pinned (OpenSpec.ofChange fnExactClassFormsSpec)

/-- ITS FALSE NEIGHBOUR: 'it returns false'. Refute it at one input. -/
def fnExactClassFormsWrong : ChangeSpec := { name := "fnExactClassForms", fn := fun _ => fun
  | [d1, d2] => { results := [.lit (.bool false)], args := [d1, d2] }
  | _ => none }
def FnExactClassFormsWrongFalsely : Prop := fnExactClassFormsRow.holds Tryz.pinned (OpenSpec.ofChange fnExactClassFormsWrong)

/-- 'laws.FnExactReduceAlgebra': WHATEVER THE INPUT: true; the input reads as it did. -/
def fnExactReduceAlgebraSpec : ChangeSpec := { name := "fnExactReduceAlgebra", fn := fun _ => fun
  | [d] => { results := [.lit (.bool true)], args := [d] }
  | _ => none }
def fnExactReduceAlgebraRow : OpenClaim := { program := "ytabofnehiclkiaagreat", sum := "8ea61fc30369f5e0f4f42a5ada6cb9a0377d147068007e9c4e83f8bb91be0873", func := "loop.example/g01219/laws.FnExactReduceAlgebra", spec := "fnExactReduceAlgebra", unfollowed := true, recurses := true, plainKeys := false, apart := false }
def FnExactReduceAlgebraSaid : Prop := fnExactReduceAlgebraRow.holds Tryz.pinned (OpenSpec.ofChange fnExactReduceAlgebraSpec)

/-- ITS FALSE NEIGHBOUR: 'it returns false'. Refute it at one input. -/
def fnExactReduceAlgebraWrong : ChangeSpec := { name := "fnExactReduceAlgebra", fn := fun _ => fun
  | [d] => { results := [.lit (.bool false)], args := [d] }
  | _ => none }
def FnExactReduceAlgebraWrongFalsely : Prop := fnExactReduceAlgebraRow.holds Tryz.pinned (OpenSpec.ofChange fnExactReduceAlgebraWrong)

/-- 'laws.FnExactPrimitiveOf': WHATEVER THE INPUT: true; the input reads as it did. -/
def fnExactPrimitiveOfSpec : ChangeSpec := { name := "fnExactPrimitiveOf", fn := fun _ => fun
  | [d1, d2] => { results := [.lit (.bool true)], args := [d1, d2] }
  | _ => none }
def fnExactPrimitiveOfRow : OpenClaim := { program := "ytabofnehiclkiaagreat", sum := "8ea61fc30369f5e0f4f42a5ada6cb9a0377d147068007e9c4e83f8bb91be0873", func := "loop.example/g01219/laws.FnExactPrimitiveOf", spec := "fnExactPrimitiveOf", unfollowed := true, recurses := true, plainKeys := false, apart := false }
def FnExactPrimitiveOfSaid : Prop := fnExactPrimitiveOfRow.holds Tryz.pinned (OpenSpec.ofChange fnExactPrimitiveOfSpec)

/-- ITS FALSE NEIGHBOUR: 'it returns false'. Refute it at one input. -/
def fnExactPrimitiveOfWrong : ChangeSpec := { name := "fnExactPrimitiveOf", fn := fun _ => fun
  | [d1, d2] => { results := [.lit (.bool false)], args := [d1, d2] }
  | _ => none }
def FnExactPrimitiveOfWrongFalsely : Prop := fnExactPrimitiveOfRow.holds Tryz.pinned (OpenSpec.ofChange fnExactPrimitiveOfWrong)

/-- 'laws.FnExactTripleForm': WHATEVER THE INPUT: true; the input reads as it did. -/
def fnExactTripleFormSpec : ChangeSpec := { name := "fnExactTripleForm", fn := fun _ => fun
  | [d1, d2, d3, d4] => { results := [.lit (.bool true)], args := [d1, d2, d3, d4] }
  | _ => none }
def fnExactTripleFormRow : OpenClaim := { program := "ytabofnehiclkiaagreat", sum := "8ea61fc30369f5e0f4f42a5ada6cb9a0377d147068007e9c4e83f8bb91be0873", func := "loop.example/g01219/laws.FnExactTripleForm", spec := "fnExactTripleForm", unfollowed := true, recurses := true, plainKeys := false, apart := false }
def FnExactTripleFormSaid : Prop := fnExactTripleFormRow.holds Tryz.pinned (OpenSpec.ofChange fnExactTripleFormSpec)

/-- ITS FALSE NEIGHBOUR: 'it returns false'. Refute it at one input. -/
def fnExactTripleFormWrong : ChangeSpec := { name := "fnExactTripleForm", fn := fun _ => fun
  | [d1, d2, d3, d4] => { results := [.lit (.bool false)], args := [d1, d2, d3, d4] }
  | _ => none }
def FnExactTripleFormWrongFalsely : Prop := fnExactTripleFormRow.holds Tryz.pinned (OpenSpec.ofChange fnExactTripleFormWrong)

/-- 'laws.FnExactTripleParts': WHATEVER THE INPUT: true; the input reads as it did. -/
def fnExactTriplePartsSpec : ChangeSpec := { name := "fnExactTripleParts", fn := fun _ => fun
  | [d1, d2, d3, d4] => { results := [.lit (.bool true)], args := [d1, d2, d3, d4] }
  | _ => none }
def fnExactTriplePartsRow : OpenClaim := { program := "ytabofnehiclkiaagreat", sum := "8ea61fc30369f5e0f4f42a5ada6cb9a0377d147068007e9c4e83f8bb91be0873", func := "loop.example/g01219/laws.FnExactTripleParts", spec := "fnExactTripleParts", unfollowed := true, recurses := true, plainKeys := false, apart := false }
def FnExactTriplePartsSaid : Prop := fnExactTriplePartsRow.holds Tryz.pinned (OpenSpec.ofChange fnExactTriplePartsSpec)

/-- ITS FALSE NEIGHBOUR: 'it returns false'. Refute it at one input. -/
def fnExactTriplePartsWrong : ChangeSpec := { name := "fnExactTripleParts", fn := fun _ => fun
  | [d1, d2, d3, d4] => { results := [.lit (.bool false)], args := [d1, d2, d3, d4] }
  | _ => none }
def FnExactTriplePartsWrongFalsely : Prop := fnExactTriplePartsRow.holds Tryz.pinned (OpenSpec.ofChange fnExactTriplePartsWrong)

/-- 'laws.FnDifferentials': WHATEVER THE INPUT: true; the input reads as it did. -/
def fnDifferentialsSpec : ChangeSpec := { name := "fnDifferentials", fn := fun _ => fun
  | [d] => { results := [.lit (.bool true)], args := [d] }
  | _ => none }
def fnDifferentialsRow : OpenClaim := { program := "ytabofnehiclkiaagreat", sum := "8ea61fc30369f5e0f4f42a5ada6cb9a0377d147068007e9c4e83f8bb91be0873", func := "loop.example/g01219/laws.FnDifferentials", spec := "fnDifferentials", unfollowed := true, recurses := true, plainKeys := false, apart := false }
def FnDifferentialsSaid : Prop := fnDifferentialsRow.holds Tryz.pinned (OpenSpec.ofChange fnDifferentialsSpec)

/-- ITS FALSE NEIGHBOUR: 'it returns false'. Refute it at one input. -/
def fnDifferentialsWrong : ChangeSpec := { name := "fnDifferentials", fn := fun _ => fun
  | [d] => { results := [.lit (.bool false)], args := [d] }
  | _ => none }
def FnDifferentialsWrongFalsely : Prop := fnDifferentialsRow.holds Tryz.pinned (OpenSpec.ofChange fnDifferentialsWrong)

/-- 'laws.FnExactHomotopyEuler': WHATEVER THE INPUT: true; the input reads as it did. -/
def fnExactHomotopyEulerSpec : ChangeSpec := { name := "fnExactHomotopyEuler", fn := fun _ => fun
  | [d1, d2] => { results := [.lit (.bool true)], args := [d1, d2] }
  | _ => none }
def fnExactHomotopyEulerRow : OpenClaim := { program := "ytabofnehiclkiaagreat", sum := "8ea61fc30369f5e0f4f42a5ada6cb9a0377d147068007e9c4e83f8bb91be0873", func := "loop.example/g01219/laws.FnExactHomotopyEuler", spec := "fnExactHomotopyEuler", unfollowed := true, recurses := true, plainKeys := false, apart := false }
def FnExactHomotopyEulerSaid : Prop := fnExactHomotopyEulerRow.holds Tryz.pinned (OpenSpec.ofChange fnExactHomotopyEulerSpec)

/-- ITS FALSE NEIGHBOUR: 'it returns false'. Refute it at one input. -/
def fnExactHomotopyEulerWrong : ChangeSpec := { name := "fnExactHomotopyEuler", fn := fun _ => fun
  | [d1, d2] => { results := [.lit (.bool false)], args := [d1, d2] }
  | _ => none }
def FnExactHomotopyEulerWrongFalsely : Prop := fnExactHomotopyEulerRow.holds Tryz.pinned (OpenSpec.ofChange fnExactHomotopyEulerWrong)

/-- 'laws.FnExactIsModel': WHATEVER THE INPUT: true; the input reads as it did. -/
def fnExactIsModelSpec : ChangeSpec := { name := "fnExactIsModel", fn := fun _ => fun
  | [d1, d2, d3, d4] => { results := [.lit (.bool true)], args := [d1, d2, d3, d4] }
  | _ => none }
def fnExactIsModelRow : OpenClaim := { program := "ytabofnehiclkiaagreat", sum := "8ea61fc30369f5e0f4f42a5ada6cb9a0377d147068007e9c4e83f8bb91be0873", func := "loop.example/g01219/laws.FnExactIsModel", spec := "fnExactIsModel", unfollowed := true, recurses := true, plainKeys := false, apart := false }
def FnExactIsModelSaid : Prop := fnExactIsModelRow.holds Tryz.pinned (OpenSpec.ofChange fnExactIsModelSpec)

/-- ITS FALSE NEIGHBOUR: 'it returns false'. Refute it at one input. -/
def fnExactIsModelWrong : ChangeSpec := { name := "fnExactIsModel", fn := fun _ => fun
  | [d1, d2, d3, d4] => { results := [.lit (.bool false)], args := [d1, d2, d3, d4] }
  | _ => none }
def FnExactIsModelWrongFalsely : Prop := fnExactIsModelRow.holds Tryz.pinned (OpenSpec.ofChange fnExactIsModelWrong)

/- THE SECOND FORM. 'bulk': how many values and letters a reading holds, each counted each time it is reached (what is shared counts as often as it is met; a slice's spare places count too). A statement '..UptoSaid' is the law's where the arguments, and the package variables that the reading takes, are together of bulk at most 1048576: NARROWER than '..Said'. Prove '..Said' where nothing that the law and all that it calls make is longer than what came in: it says more and counts as full. Else prove '..UptoSaid'. A law counts once. -/
mutual
def uptoBulk {H : Type} : DataW H → Nat
  | .lit (.string bytes) => bytes.length + 1
  | .lit _ => 1
  | .nil => 1
  | .ptr d => uptoBulk d + 1
  | .slice elems spare => uptoBulkAll elems + uptoBulkAll spare + 1
  | .agg parts => uptoBulkAll parts + 1
  | .iface _ d => uptoBulk d + 1
  | .map entries => uptoBulkEntries entries + 1
  | .held _ => 1
def uptoBulkAll {H : Type} : List (DataW H) → Nat
  | [] => 0
  | d :: r => uptoBulk d + uptoBulkAll r
def uptoBulkEntries {H : Type} : List (Lit × DataW H) → Nat
  | [] => 0
  | x :: r => uptoBulkEntry x + uptoBulkEntries r
def uptoBulkEntry {H : Type} : Lit × DataW H → Nat
  | (.string bytes, d) => bytes.length + uptoBulk d + 1
  | (_, d) => uptoBulk d + 1
 end
def uptoSmall : (H : Type) → List (DataW H) → Bool := fun _ ds => decide (uptoBulkAll ds ≤ 1048576)
def OpenSpec.upto (s : _root_.Go.ChangeSpec) : _root_.Go.OpenSpec := { _root_.Go.OpenSpec.ofChange s with cond := some uptoSmall }

/-- 'laws.FnExactFirstTriple', WHERE WHAT IT READS IS OF BULK AT MOST 1048576: true; the input reads as it did. -/
def fnExactFirstTripleUptoRow : OpenClaim := { program := "ytabofnehiclkiaagreat", sum := "8ea61fc30369f5e0f4f42a5ada6cb9a0377d147068007e9c4e83f8bb91be0873", func := "loop.example/g01219/laws.FnExactFirstTriple", spec := "fnExactFirstTriple", unfollowed := true, recurses := true, plainKeys := false, apart := false, narrowed := true }
def FnExactFirstTripleUptoSaid : Prop := fnExactFirstTripleUptoRow.holds Tryz.pinned (OpenSpec.upto fnExactFirstTripleSpec)

/-- 'laws.FnExactTripleClass', WHERE WHAT IT READS IS OF BULK AT MOST 1048576: true; the input reads as it did. -/
def fnExactTripleClassUptoRow : OpenClaim := { program := "ytabofnehiclkiaagreat", sum := "8ea61fc30369f5e0f4f42a5ada6cb9a0377d147068007e9c4e83f8bb91be0873", func := "loop.example/g01219/laws.FnExactTripleClass", spec := "fnExactTripleClass", unfollowed := true, recurses := true, plainKeys := false, apart := false, narrowed := true }
def FnExactTripleClassUptoSaid : Prop := fnExactTripleClassUptoRow.holds Tryz.pinned (OpenSpec.upto fnExactTripleClassSpec)

/-- 'laws.FnExactBoundaryForms', WHERE WHAT IT READS IS OF BULK AT MOST 1048576: true; the input reads as it did. -/
def fnExactBoundaryFormsUptoRow : OpenClaim := { program := "ytabofnehiclkiaagreat", sum := "8ea61fc30369f5e0f4f42a5ada6cb9a0377d147068007e9c4e83f8bb91be0873", func := "loop.example/g01219/laws.FnExactBoundaryForms", spec := "fnExactBoundaryForms", unfollowed := true, recurses := true, plainKeys := false, apart := false, narrowed := true }
def FnExactBoundaryFormsUptoSaid : Prop := fnExactBoundaryFormsUptoRow.holds Tryz.pinned (OpenSpec.upto fnExactBoundaryFormsSpec)

/-- 'laws.FnExactClosedForms', WHERE WHAT IT READS IS OF BULK AT MOST 1048576: true; the input reads as it did. -/
def fnExactClosedFormsUptoRow : OpenClaim := { program := "ytabofnehiclkiaagreat", sum := "8ea61fc30369f5e0f4f42a5ada6cb9a0377d147068007e9c4e83f8bb91be0873", func := "loop.example/g01219/laws.FnExactClosedForms", spec := "fnExactClosedForms", unfollowed := true, recurses := true, plainKeys := false, apart := false, narrowed := true }
def FnExactClosedFormsUptoSaid : Prop := fnExactClosedFormsUptoRow.holds Tryz.pinned (OpenSpec.upto fnExactClosedFormsSpec)

/-- 'laws.FnExactClassForms', WHERE WHAT IT READS IS OF BULK AT MOST 1048576: true; the input reads as it did. -/
def fnExactClassFormsUptoRow : OpenClaim := { program := "ytabofnehiclkiaagreat", sum := "8ea61fc30369f5e0f4f42a5ada6cb9a0377d147068007e9c4e83f8bb91be0873", func := "loop.example/g01219/laws.FnExactClassForms", spec := "fnExactClassForms", unfollowed := true, recurses := true, plainKeys := false, apart := false, narrowed := true }
def FnExactClassFormsUptoSaid : Prop := fnExactClassFormsUptoRow.holds Tryz.pinned (OpenSpec.upto fnExactClassFormsSpec)

/-- 'laws.FnExactReduceAlgebra', WHERE WHAT IT READS IS OF BULK AT MOST 1048576: true; the input reads as it did. -/
def fnExactReduceAlgebraUptoRow : OpenClaim := { program := "ytabofnehiclkiaagreat", sum := "8ea61fc30369f5e0f4f42a5ada6cb9a0377d147068007e9c4e83f8bb91be0873", func := "loop.example/g01219/laws.FnExactReduceAlgebra", spec := "fnExactReduceAlgebra", unfollowed := true, recurses := true, plainKeys := false, apart := false, narrowed := true }
def FnExactReduceAlgebraUptoSaid : Prop := fnExactReduceAlgebraUptoRow.holds Tryz.pinned (OpenSpec.upto fnExactReduceAlgebraSpec)

/-- 'laws.FnExactPrimitiveOf', WHERE WHAT IT READS IS OF BULK AT MOST 1048576: true; the input reads as it did. -/
def fnExactPrimitiveOfUptoRow : OpenClaim := { program := "ytabofnehiclkiaagreat", sum := "8ea61fc30369f5e0f4f42a5ada6cb9a0377d147068007e9c4e83f8bb91be0873", func := "loop.example/g01219/laws.FnExactPrimitiveOf", spec := "fnExactPrimitiveOf", unfollowed := true, recurses := true, plainKeys := false, apart := false, narrowed := true }
def FnExactPrimitiveOfUptoSaid : Prop := fnExactPrimitiveOfUptoRow.holds Tryz.pinned (OpenSpec.upto fnExactPrimitiveOfSpec)

/-- 'laws.FnExactTripleForm', WHERE WHAT IT READS IS OF BULK AT MOST 1048576: true; the input reads as it did. -/
def fnExactTripleFormUptoRow : OpenClaim := { program := "ytabofnehiclkiaagreat", sum := "8ea61fc30369f5e0f4f42a5ada6cb9a0377d147068007e9c4e83f8bb91be0873", func := "loop.example/g01219/laws.FnExactTripleForm", spec := "fnExactTripleForm", unfollowed := true, recurses := true, plainKeys := false, apart := false, narrowed := true }
def FnExactTripleFormUptoSaid : Prop := fnExactTripleFormUptoRow.holds Tryz.pinned (OpenSpec.upto fnExactTripleFormSpec)

/-- 'laws.FnExactTripleParts', WHERE WHAT IT READS IS OF BULK AT MOST 1048576: true; the input reads as it did. -/
def fnExactTriplePartsUptoRow : OpenClaim := { program := "ytabofnehiclkiaagreat", sum := "8ea61fc30369f5e0f4f42a5ada6cb9a0377d147068007e9c4e83f8bb91be0873", func := "loop.example/g01219/laws.FnExactTripleParts", spec := "fnExactTripleParts", unfollowed := true, recurses := true, plainKeys := false, apart := false, narrowed := true }
def FnExactTriplePartsUptoSaid : Prop := fnExactTriplePartsUptoRow.holds Tryz.pinned (OpenSpec.upto fnExactTriplePartsSpec)

/-- 'laws.FnDifferentials', WHERE WHAT IT READS IS OF BULK AT MOST 1048576: true; the input reads as it did. -/
def fnDifferentialsUptoRow : OpenClaim := { program := "ytabofnehiclkiaagreat", sum := "8ea61fc30369f5e0f4f42a5ada6cb9a0377d147068007e9c4e83f8bb91be0873", func := "loop.example/g01219/laws.FnDifferentials", spec := "fnDifferentials", unfollowed := true, recurses := true, plainKeys := false, apart := false, narrowed := true }
def FnDifferentialsUptoSaid : Prop := fnDifferentialsUptoRow.holds Tryz.pinned (OpenSpec.upto fnDifferentialsSpec)

/-- 'laws.FnExactHomotopyEuler', WHERE WHAT IT READS IS OF BULK AT MOST 1048576: true; the input reads as it did. -/
def fnExactHomotopyEulerUptoRow : OpenClaim := { program := "ytabofnehiclkiaagreat", sum := "8ea61fc30369f5e0f4f42a5ada6cb9a0377d147068007e9c4e83f8bb91be0873", func := "loop.example/g01219/laws.FnExactHomotopyEuler", spec := "fnExactHomotopyEuler", unfollowed := true, recurses := true, plainKeys := false, apart := false, narrowed := true }
def FnExactHomotopyEulerUptoSaid : Prop := fnExactHomotopyEulerUptoRow.holds Tryz.pinned (OpenSpec.upto fnExactHomotopyEulerSpec)

/-- 'laws.FnExactIsModel', WHERE WHAT IT READS IS OF BULK AT MOST 1048576: true; the input reads as it did. -/
def fnExactIsModelUptoRow : OpenClaim := { program := "ytabofnehiclkiaagreat", sum := "8ea61fc30369f5e0f4f42a5ada6cb9a0377d147068007e9c4e83f8bb91be0873", func := "loop.example/g01219/laws.FnExactIsModel", spec := "fnExactIsModel", unfollowed := true, recurses := true, plainKeys := false, apart := false, narrowed := true }
def FnExactIsModelUptoSaid : Prop := fnExactIsModelUptoRow.holds Tryz.pinned (OpenSpec.upto fnExactIsModelSpec)

end Rows
end Go.Proofs.YtabofnehiclkiaaGreat
