/-
  No cell of these rows narrows 'for every input' (looked for: loops, veiled, ifaces, maps, wideKeys, modest, calm, conditions, laid).
  DERIVED. THE GIVEN ROWS OF THIS SEAT. 12 by the template 'for every input the law returns true; each argument reads behind the call as it read before'; 0 by the template 'total and deterministic' (their statements: YtfodlhkoafhplaaGreatTotals.lean).
  GIVEN WITH THE SEED: the statements are not yours to turn. If you find one false, say at which input.
  Laid BY PROGRAM, IN A SANDBOX (cutbox-rows.mjs): the forced cells as the released guide's own fill.sh prints them over the translation be594da26e7074ac… (all of the seat's roots in one cut). By AI agents, Wed Nov 11 2026. No macro, syntax, notation, axiom, sorry.
-/
import Derived.Test.YtfodlhkoafhplaaGreatChecked
import GoSem.Claim
import GoSem.ClaimJoined
import GoSem.ClaimMapViews
import Derived.JoinedTies
import Derived.KernelRfl
namespace Go.Proofs.YtfodlhkoafhplaaGreat
/- THE CELL 'sum', in the pinned program and in every row, IS THE sha256 OF THE DUMP (.gsa) THAT YtfodlhkoafhplaaGreatProg.lean LOADS. Nothing in Lean hashes anything: it is a label: what it is worth is what the hold of that sum in a sandbox is worth. -/
noncomputable def Tryz.pinned : Pinned := { name := "ytfodlhkoafhplaagreat", sum := "be594da26e7074acc1ce956b5a897ce21c52b1eec0a6dada1fbb9983f45c9e42", checked := Tryz.checked }
namespace Rows
def none {H : Type} : Left H := { results := [], args := [] }

/-- 'laws.FnExactDropGenerator': WHATEVER THE INPUT: true; the input reads as it did. -/
def fnExactDropGeneratorSpec : ChangeSpec := { name := "fnExactDropGenerator", fn := fun _ => fun
  | [d1, d2] => { results := [.lit (.bool true)], args := [d1, d2] }
  | _ => none }
def fnExactDropGeneratorRow : OpenClaim := { program := "ytfodlhkoafhplaagreat", sum := "be594da26e7074acc1ce956b5a897ce21c52b1eec0a6dada1fbb9983f45c9e42", func := "loop.example/g01219/laws.FnExactDropGenerator", spec := "fnExactDropGenerator", unfollowed := true, recurses := true, plainKeys := false, apart := false }
def FnExactDropGeneratorSaid : Prop := fnExactDropGeneratorRow.holds Tryz.pinned (OpenSpec.ofChange fnExactDropGeneratorSpec)

/-- ITS FALSE NEIGHBOUR: 'it returns false'. Refute it at one input. -/
def fnExactDropGeneratorWrong : ChangeSpec := { name := "fnExactDropGenerator", fn := fun _ => fun
  | [d1, d2] => { results := [.lit (.bool false)], args := [d1, d2] }
  | _ => none }
def FnExactDropGeneratorWrongFalsely : Prop := fnExactDropGeneratorRow.holds Tryz.pinned (OpenSpec.ofChange fnExactDropGeneratorWrong)

/-- 'laws.FnExactFirstTriple': WHATEVER THE INPUT: true; the input reads as it did. -/
def fnExactFirstTripleSpec : ChangeSpec := { name := "fnExactFirstTriple", fn := fun _ => fun
  | [d1, d2] => { results := [.lit (.bool true)], args := [d1, d2] }
  | _ => none }
def fnExactFirstTripleRow : OpenClaim := { program := "ytfodlhkoafhplaagreat", sum := "be594da26e7074acc1ce956b5a897ce21c52b1eec0a6dada1fbb9983f45c9e42", func := "loop.example/g01219/laws.FnExactFirstTriple", spec := "fnExactFirstTriple", unfollowed := true, recurses := true, plainKeys := false, apart := false }
def FnExactFirstTripleSaid : Prop := fnExactFirstTripleRow.holds Tryz.pinned (OpenSpec.ofChange fnExactFirstTripleSpec)

/-- ITS FALSE NEIGHBOUR: 'it returns false'. Refute it at one input. -/
def fnExactFirstTripleWrong : ChangeSpec := { name := "fnExactFirstTriple", fn := fun _ => fun
  | [d1, d2] => { results := [.lit (.bool false)], args := [d1, d2] }
  | _ => none }
def FnExactFirstTripleWrongFalsely : Prop := fnExactFirstTripleRow.holds Tryz.pinned (OpenSpec.ofChange fnExactFirstTripleWrong)

/-- 'laws.FnExactTripleClass': WHATEVER THE INPUT: true; the input reads as it did. -/
def fnExactTripleClassSpec : ChangeSpec := { name := "fnExactTripleClass", fn := fun _ => fun
  | [d1, d2, d3, d4] => { results := [.lit (.bool true)], args := [d1, d2, d3, d4] }
  | _ => none }
def fnExactTripleClassRow : OpenClaim := { program := "ytfodlhkoafhplaagreat", sum := "be594da26e7074acc1ce956b5a897ce21c52b1eec0a6dada1fbb9983f45c9e42", func := "loop.example/g01219/laws.FnExactTripleClass", spec := "fnExactTripleClass", unfollowed := true, recurses := true, plainKeys := false, apart := false }
def FnExactTripleClassSaid : Prop := fnExactTripleClassRow.holds Tryz.pinned (OpenSpec.ofChange fnExactTripleClassSpec)

/-- ITS FALSE NEIGHBOUR: 'it returns false'. Refute it at one input. -/
def fnExactTripleClassWrong : ChangeSpec := { name := "fnExactTripleClass", fn := fun _ => fun
  | [d1, d2, d3, d4] => { results := [.lit (.bool false)], args := [d1, d2, d3, d4] }
  | _ => none }
def FnExactTripleClassWrongFalsely : Prop := fnExactTripleClassRow.holds Tryz.pinned (OpenSpec.ofChange fnExactTripleClassWrong)

/-- 'laws.FnExactApplyMap': WHATEVER THE INPUT: true; the input reads as it did. -/
def fnExactApplyMapSpec : ChangeSpec := { name := "fnExactApplyMap", fn := fun _ => fun
  | [d1, d2, d3, d4] => { results := [.lit (.bool true)], args := [d1, d2, d3, d4] }
  | _ => none }
def fnExactApplyMapRow : OpenClaim := { program := "ytfodlhkoafhplaagreat", sum := "be594da26e7074acc1ce956b5a897ce21c52b1eec0a6dada1fbb9983f45c9e42", func := "loop.example/g01219/laws.FnExactApplyMap", spec := "fnExactApplyMap", unfollowed := true, recurses := true, plainKeys := false, apart := false }
def FnExactApplyMapSaid : Prop := fnExactApplyMapRow.holds Tryz.pinned (OpenSpec.ofChange fnExactApplyMapSpec)

/-- ITS FALSE NEIGHBOUR: 'it returns false'. Refute it at one input. -/
def fnExactApplyMapWrong : ChangeSpec := { name := "fnExactApplyMap", fn := fun _ => fun
  | [d1, d2, d3, d4] => { results := [.lit (.bool false)], args := [d1, d2, d3, d4] }
  | _ => none }
def FnExactApplyMapWrongFalsely : Prop := fnExactApplyMapRow.holds Tryz.pinned (OpenSpec.ofChange fnExactApplyMapWrong)

/-- 'laws.FnDifferentials': WHATEVER THE INPUT: true; the input reads as it did. -/
def fnDifferentialsSpec : ChangeSpec := { name := "fnDifferentials", fn := fun _ => fun
  | [d] => { results := [.lit (.bool true)], args := [d] }
  | _ => none }
def fnDifferentialsRow : OpenClaim := { program := "ytfodlhkoafhplaagreat", sum := "be594da26e7074acc1ce956b5a897ce21c52b1eec0a6dada1fbb9983f45c9e42", func := "loop.example/g01219/laws.FnDifferentials", spec := "fnDifferentials", unfollowed := true, recurses := true, plainKeys := false, apart := false }
def FnDifferentialsSaid : Prop := fnDifferentialsRow.holds Tryz.pinned (OpenSpec.ofChange fnDifferentialsSpec)

/-- ITS FALSE NEIGHBOUR: 'it returns false'. Refute it at one input. -/
def fnDifferentialsWrong : ChangeSpec := { name := "fnDifferentials", fn := fun _ => fun
  | [d] => { results := [.lit (.bool false)], args := [d] }
  | _ => none }
def FnDifferentialsWrongFalsely : Prop := fnDifferentialsRow.holds Tryz.pinned (OpenSpec.ofChange fnDifferentialsWrong)

/-- 'laws.FnTop': WHATEVER THE INPUT: true; the input reads as it did. -/
def fnTopSpec : ChangeSpec := { name := "fnTop", fn := fun _ => fun
  | [d] => { results := [.lit (.bool true)], args := [d] }
  | _ => none }
def fnTopRow : OpenClaim := { program := "ytfodlhkoafhplaagreat", sum := "be594da26e7074acc1ce956b5a897ce21c52b1eec0a6dada1fbb9983f45c9e42", func := "loop.example/g01219/laws.FnTop", spec := "fnTop", unfollowed := true, recurses := true, plainKeys := false, apart := false }
def FnTopSaid : Prop := fnTopRow.holds Tryz.pinned (OpenSpec.ofChange fnTopSpec)

/-- ITS FALSE NEIGHBOUR: 'it returns false'. Refute it at one input. -/
def fnTopWrong : ChangeSpec := { name := "fnTop", fn := fun _ => fun
  | [d] => { results := [.lit (.bool false)], args := [d] }
  | _ => none }
def FnTopWrongFalsely : Prop := fnTopRow.holds Tryz.pinned (OpenSpec.ofChange fnTopWrong)

/-- 'laws.FnExactChangeGenerator': WHATEVER THE INPUT: true; the input reads as it did. -/
def fnExactChangeGeneratorSpec : ChangeSpec := { name := "fnExactChangeGenerator", fn := fun _ => fun
  | [d1, d2, d3] => { results := [.lit (.bool true)], args := [d1, d2, d3] }
  | _ => none }
def fnExactChangeGeneratorRow : OpenClaim := { program := "ytfodlhkoafhplaagreat", sum := "be594da26e7074acc1ce956b5a897ce21c52b1eec0a6dada1fbb9983f45c9e42", func := "loop.example/g01219/laws.FnExactChangeGenerator", spec := "fnExactChangeGenerator", unfollowed := true, recurses := true, plainKeys := false, apart := false }
def FnExactChangeGeneratorSaid : Prop := fnExactChangeGeneratorRow.holds Tryz.pinned (OpenSpec.ofChange fnExactChangeGeneratorSpec)

/-- ITS FALSE NEIGHBOUR: 'it returns false'. Refute it at one input. -/
def fnExactChangeGeneratorWrong : ChangeSpec := { name := "fnExactChangeGenerator", fn := fun _ => fun
  | [d1, d2, d3] => { results := [.lit (.bool false)], args := [d1, d2, d3] }
  | _ => none }
def FnExactChangeGeneratorWrongFalsely : Prop := fnExactChangeGeneratorRow.holds Tryz.pinned (OpenSpec.ofChange fnExactChangeGeneratorWrong)

/-- 'laws.FnExactScaleGenerator': WHATEVER THE INPUT: true; the input reads as it did. -/
def fnExactScaleGeneratorSpec : ChangeSpec := { name := "fnExactScaleGenerator", fn := fun _ => fun
  | [d1, d2, d3] => { results := [.lit (.bool true)], args := [d1, d2, d3] }
  | _ => none }
def fnExactScaleGeneratorRow : OpenClaim := { program := "ytfodlhkoafhplaagreat", sum := "be594da26e7074acc1ce956b5a897ce21c52b1eec0a6dada1fbb9983f45c9e42", func := "loop.example/g01219/laws.FnExactScaleGenerator", spec := "fnExactScaleGenerator", unfollowed := true, recurses := true, plainKeys := false, apart := false }
def FnExactScaleGeneratorSaid : Prop := fnExactScaleGeneratorRow.holds Tryz.pinned (OpenSpec.ofChange fnExactScaleGeneratorSpec)

/-- ITS FALSE NEIGHBOUR: 'it returns false'. Refute it at one input. -/
def fnExactScaleGeneratorWrong : ChangeSpec := { name := "fnExactScaleGenerator", fn := fun _ => fun
  | [d1, d2, d3] => { results := [.lit (.bool false)], args := [d1, d2, d3] }
  | _ => none }
def FnExactScaleGeneratorWrongFalsely : Prop := fnExactScaleGeneratorRow.holds Tryz.pinned (OpenSpec.ofChange fnExactScaleGeneratorWrong)

/-- 'laws.FnExactSortGenerators': WHATEVER THE INPUT: true; the input reads as it did. -/
def fnExactSortGeneratorsSpec : ChangeSpec := { name := "fnExactSortGenerators", fn := fun _ => fun
  | [d] => { results := [.lit (.bool true)], args := [d] }
  | _ => none }
def fnExactSortGeneratorsRow : OpenClaim := { program := "ytfodlhkoafhplaagreat", sum := "be594da26e7074acc1ce956b5a897ce21c52b1eec0a6dada1fbb9983f45c9e42", func := "loop.example/g01219/laws.FnExactSortGenerators", spec := "fnExactSortGenerators", unfollowed := true, recurses := true, plainKeys := false, apart := false }
def FnExactSortGeneratorsSaid : Prop := fnExactSortGeneratorsRow.holds Tryz.pinned (OpenSpec.ofChange fnExactSortGeneratorsSpec)

/-- ITS FALSE NEIGHBOUR: 'it returns false'. Refute it at one input. -/
def fnExactSortGeneratorsWrong : ChangeSpec := { name := "fnExactSortGenerators", fn := fun _ => fun
  | [d] => { results := [.lit (.bool false)], args := [d] }
  | _ => none }
def FnExactSortGeneratorsWrongFalsely : Prop := fnExactSortGeneratorsRow.holds Tryz.pinned (OpenSpec.ofChange fnExactSortGeneratorsWrong)

/-- 'laws.FnExactContractPair': WHATEVER THE INPUT: true; the input reads as it did. -/
def fnExactContractPairSpec : ChangeSpec := { name := "fnExactContractPair", fn := fun _ => fun
  | [d] => { results := [.lit (.bool true)], args := [d] }
  | _ => none }
def fnExactContractPairRow : OpenClaim := { program := "ytfodlhkoafhplaagreat", sum := "be594da26e7074acc1ce956b5a897ce21c52b1eec0a6dada1fbb9983f45c9e42", func := "loop.example/g01219/laws.FnExactContractPair", spec := "fnExactContractPair", unfollowed := true, recurses := true, plainKeys := false, apart := false }
def FnExactContractPairSaid : Prop := fnExactContractPairRow.holds Tryz.pinned (OpenSpec.ofChange fnExactContractPairSpec)

/-- ITS FALSE NEIGHBOUR: 'it returns false'. Refute it at one input. -/
def fnExactContractPairWrong : ChangeSpec := { name := "fnExactContractPair", fn := fun _ => fun
  | [d] => { results := [.lit (.bool false)], args := [d] }
  | _ => none }
def FnExactContractPairWrongFalsely : Prop := fnExactContractPairRow.holds Tryz.pinned (OpenSpec.ofChange fnExactContractPairWrong)

/-- 'laws.FnExactIsContractible': WHATEVER THE INPUT: true; the input reads as it did. -/
def fnExactIsContractibleSpec : ChangeSpec := { name := "fnExactIsContractible", fn := fun _ => fun
  | [d] => { results := [.lit (.bool true)], args := [d] }
  | _ => none }
def fnExactIsContractibleRow : OpenClaim := { program := "ytfodlhkoafhplaagreat", sum := "be594da26e7074acc1ce956b5a897ce21c52b1eec0a6dada1fbb9983f45c9e42", func := "loop.example/g01219/laws.FnExactIsContractible", spec := "fnExactIsContractible", unfollowed := true, recurses := true, plainKeys := false, apart := false }
def FnExactIsContractibleSaid : Prop := fnExactIsContractibleRow.holds Tryz.pinned (OpenSpec.ofChange fnExactIsContractibleSpec)

/-- ITS FALSE NEIGHBOUR: 'it returns false'. Refute it at one input. -/
def fnExactIsContractibleWrong : ChangeSpec := { name := "fnExactIsContractible", fn := fun _ => fun
  | [d] => { results := [.lit (.bool false)], args := [d] }
  | _ => none }
def FnExactIsContractibleWrongFalsely : Prop := fnExactIsContractibleRow.holds Tryz.pinned (OpenSpec.ofChange fnExactIsContractibleWrong)

/-- 'laws.FnExactBoundaryForms': WHATEVER THE INPUT: true; the input reads as it did. -/
def fnExactBoundaryFormsSpec : ChangeSpec := { name := "fnExactBoundaryForms", fn := fun _ => fun
  | [d1, d2] => { results := [.lit (.bool true)], args := [d1, d2] }
  | _ => none }
def fnExactBoundaryFormsRow : OpenClaim := { program := "ytfodlhkoafhplaagreat", sum := "be594da26e7074acc1ce956b5a897ce21c52b1eec0a6dada1fbb9983f45c9e42", func := "loop.example/g01219/laws.FnExactBoundaryForms", spec := "fnExactBoundaryForms", unfollowed := true, recurses := true, plainKeys := false, apart := false }
def FnExactBoundaryFormsSaid : Prop := fnExactBoundaryFormsRow.holds Tryz.pinned (OpenSpec.ofChange fnExactBoundaryFormsSpec)

/-- ITS FALSE NEIGHBOUR: 'it returns false'. Refute it at one input. -/
def fnExactBoundaryFormsWrong : ChangeSpec := { name := "fnExactBoundaryForms", fn := fun _ => fun
  | [d1, d2] => { results := [.lit (.bool false)], args := [d1, d2] }
  | _ => none }
def FnExactBoundaryFormsWrongFalsely : Prop := fnExactBoundaryFormsRow.holds Tryz.pinned (OpenSpec.ofChange fnExactBoundaryFormsWrong)

/- THE SECOND FORM. 'bulk': how many values and letters a reading holds, each counted each time it is reached (what is shared counts as often as it is met; a slice's spare places count too). A statement '..UptoSaid' is the law's where the arguments, and the package variables that the reading takes, are together of bulk at most 1048576: NARROWER than '..Said'. Prove '..Said' where nothing that the law and all that it calls make is longer than what came in: it says more and counts as full. Else prove '..UptoSaid'. A law counts once. -/
mutual
def uptoBulk {H : Type} : DataW H → Nat
  | .lit (.string bytes) => bytes.length + 1
  | .lit _ => 1
  | .nil => 1
  | .ptr d => uptoBulk d + 1
  | .slice elems spare => uptoBulkAll elems + uptoBulkAll spare + 1
  | .agg parts => uptoBulkAll parts + 1
  | .iface _ d => uptoBulk d + 1
  | .map entries => uptoBulkEntries entries + 1
  | .held _ => 1
def uptoBulkAll {H : Type} : List (DataW H) → Nat
  | [] => 0
  | d :: r => uptoBulk d + uptoBulkAll r
def uptoBulkEntries {H : Type} : List (Lit × DataW H) → Nat
  | [] => 0
  | x :: r => uptoBulkEntry x + uptoBulkEntries r
def uptoBulkEntry {H : Type} : Lit × DataW H → Nat
  | (.string bytes, d) => bytes.length + uptoBulk d + 1
  | (_, d) => uptoBulk d + 1
 end
def uptoSmall : (H : Type) → List (DataW H) → Bool := fun _ ds => decide (uptoBulkAll ds ≤ 1048576)
def OpenSpec.upto (s : _root_.Go.ChangeSpec) : _root_.Go.OpenSpec := { _root_.Go.OpenSpec.ofChange s with cond := some uptoSmall }

/-- 'laws.FnExactDropGenerator', WHERE WHAT IT READS IS OF BULK AT MOST 1048576: true; the input reads as it did. -/
def fnExactDropGeneratorUptoRow : OpenClaim := { program := "ytfodlhkoafhplaagreat", sum := "be594da26e7074acc1ce956b5a897ce21c52b1eec0a6dada1fbb9983f45c9e42", func := "loop.example/g01219/laws.FnExactDropGenerator", spec := "fnExactDropGenerator", unfollowed := true, recurses := true, plainKeys := false, apart := false, narrowed := true }
def FnExactDropGeneratorUptoSaid : Prop := fnExactDropGeneratorUptoRow.holds Tryz.pinned (OpenSpec.upto fnExactDropGeneratorSpec)

/-- 'laws.FnExactFirstTriple', WHERE WHAT IT READS IS OF BULK AT MOST 1048576: true; the input reads as it did. -/
def fnExactFirstTripleUptoRow : OpenClaim := { program := "ytfodlhkoafhplaagreat", sum := "be594da26e7074acc1ce956b5a897ce21c52b1eec0a6dada1fbb9983f45c9e42", func := "loop.example/g01219/laws.FnExactFirstTriple", spec := "fnExactFirstTriple", unfollowed := true, recurses := true, plainKeys := false, apart := false, narrowed := true }
def FnExactFirstTripleUptoSaid : Prop := fnExactFirstTripleUptoRow.holds Tryz.pinned (OpenSpec.upto fnExactFirstTripleSpec)

/-- 'laws.FnExactTripleClass', WHERE WHAT IT READS IS OF BULK AT MOST 1048576: true; the input reads as it did. -/
def fnExactTripleClassUptoRow : OpenClaim := { program := "ytfodlhkoafhplaagreat", sum := "be594da26e7074acc1ce956b5a897ce21c52b1eec0a6dada1fbb9983f45c9e42", func := "loop.example/g01219/laws.FnExactTripleClass", spec := "fnExactTripleClass", unfollowed := true, recurses := true, plainKeys := false, apart := false, narrowed := true }
def FnExactTripleClassUptoSaid : Prop := fnExactTripleClassUptoRow.holds Tryz.pinned (OpenSpec.upto fnExactTripleClassSpec)

/-- 'laws.FnExactApplyMap', WHERE WHAT IT READS IS OF BULK AT MOST 1048576: true; the input reads as it did. -/
def fnExactApplyMapUptoRow : OpenClaim := { program := "ytfodlhkoafhplaagreat", sum := "be594da26e7074acc1ce956b5a897ce21c52b1eec0a6dada1fbb9983f45c9e42", func := "loop.example/g01219/laws.FnExactApplyMap", spec := "fnExactApplyMap", unfollowed := true, recurses := true, plainKeys := false, apart := false, narrowed := true }
def FnExactApplyMapUptoSaid : Prop := fnExactApplyMapUptoRow.holds Tryz.pinned (OpenSpec.upto fnExactApplyMapSpec)

/-- 'laws.FnDifferentials', WHERE WHAT IT READS IS OF BULK AT MOST 1048576: true; the input reads as it did. -/
def fnDifferentialsUptoRow : OpenClaim := { program := "ytfodlhkoafhplaagreat", sum := "be594da26e7074acc1ce956b5a897ce21c52b1eec0a6dada1fbb9983f45c9e42", func := "loop.example/g01219/laws.FnDifferentials", spec := "fnDifferentials", unfollowed := true, recurses := true, plainKeys := false, apart := false, narrowed := true }
def FnDifferentialsUptoSaid : Prop := fnDifferentialsUptoRow.holds Tryz.pinned (OpenSpec.upto fnDifferentialsSpec)

/-- 'laws.FnTop', WHERE WHAT IT READS IS OF BULK AT MOST 1048576: true; the input reads as it did. -/
def fnTopUptoRow : OpenClaim := { program := "ytfodlhkoafhplaagreat", sum := "be594da26e7074acc1ce956b5a897ce21c52b1eec0a6dada1fbb9983f45c9e42", func := "loop.example/g01219/laws.FnTop", spec := "fnTop", unfollowed := true, recurses := true, plainKeys := false, apart := false, narrowed := true }
def FnTopUptoSaid : Prop := fnTopUptoRow.holds Tryz.pinned (OpenSpec.upto fnTopSpec)

/-- 'laws.FnExactChangeGenerator', WHERE WHAT IT READS IS OF BULK AT MOST 1048576: true; the input reads as it did. -/
def fnExactChangeGeneratorUptoRow : OpenClaim := { program := "ytfodlhkoafhplaagreat", sum := "be594da26e7074acc1ce956b5a897ce21c52b1eec0a6dada1fbb9983f45c9e42", func := "loop.example/g01219/laws.FnExactChangeGenerator", spec := "fnExactChangeGenerator", unfollowed := true, recurses := true, plainKeys := false, apart := false, narrowed := true }
def FnExactChangeGeneratorUptoSaid : Prop := fnExactChangeGeneratorUptoRow.holds Tryz.pinned (OpenSpec.upto fnExactChangeGeneratorSpec)

/-- 'laws.FnExactScaleGenerator', WHERE WHAT IT READS IS OF BULK AT MOST 1048576: true; the input reads as it did. -/
def fnExactScaleGeneratorUptoRow : OpenClaim := { program := "ytfodlhkoafhplaagreat", sum := "be594da26e7074acc1ce956b5a897ce21c52b1eec0a6dada1fbb9983f45c9e42", func := "loop.example/g01219/laws.FnExactScaleGenerator", spec := "fnExactScaleGenerator", unfollowed := true, recurses := true, plainKeys := false, apart := false, narrowed := true }
def FnExactScaleGeneratorUptoSaid : Prop := fnExactScaleGeneratorUptoRow.holds Tryz.pinned (OpenSpec.upto fnExactScaleGeneratorSpec)

/-- 'laws.FnExactSortGenerators', WHERE WHAT IT READS IS OF BULK AT MOST 1048576: true; the input reads as it did. -/
def fnExactSortGeneratorsUptoRow : OpenClaim := { program := "ytfodlhkoafhplaagreat", sum := "be594da26e7074acc1ce956b5a897ce21c52b1eec0a6dada1fbb9983f45c9e42", func := "loop.example/g01219/laws.FnExactSortGenerators", spec := "fnExactSortGenerators", unfollowed := true, recurses := true, plainKeys := false, apart := false, narrowed := true }
def FnExactSortGeneratorsUptoSaid : Prop := fnExactSortGeneratorsUptoRow.holds Tryz.pinned (OpenSpec.upto fnExactSortGeneratorsSpec)

/-- 'laws.FnExactContractPair', WHERE WHAT IT READS IS OF BULK AT MOST 1048576: true; the input reads as it did. -/
def fnExactContractPairUptoRow : OpenClaim := { program := "ytfodlhkoafhplaagreat", sum := "be594da26e7074acc1ce956b5a897ce21c52b1eec0a6dada1fbb9983f45c9e42", func := "loop.example/g01219/laws.FnExactContractPair", spec := "fnExactContractPair", unfollowed := true, recurses := true, plainKeys := false, apart := false, narrowed := true }
def FnExactContractPairUptoSaid : Prop := fnExactContractPairUptoRow.holds Tryz.pinned (OpenSpec.upto fnExactContractPairSpec)

/-- 'laws.FnExactIsContractible', WHERE WHAT IT READS IS OF BULK AT MOST 1048576: true; the input reads as it did. -/
def fnExactIsContractibleUptoRow : OpenClaim := { program := "ytfodlhkoafhplaagreat", sum := "be594da26e7074acc1ce956b5a897ce21c52b1eec0a6dada1fbb9983f45c9e42", func := "loop.example/g01219/laws.FnExactIsContractible", spec := "fnExactIsContractible", unfollowed := true, recurses := true, plainKeys := false, apart := false, narrowed := true }
def FnExactIsContractibleUptoSaid : Prop := fnExactIsContractibleUptoRow.holds Tryz.pinned (OpenSpec.upto fnExactIsContractibleSpec)

/-- 'laws.FnExactBoundaryForms', WHERE WHAT IT READS IS OF BULK AT MOST 1048576: true; the input reads as it did. -/
def fnExactBoundaryFormsUptoRow : OpenClaim := { program := "ytfodlhkoafhplaagreat", sum := "be594da26e7074acc1ce956b5a897ce21c52b1eec0a6dada1fbb9983f45c9e42", func := "loop.example/g01219/laws.FnExactBoundaryForms", spec := "fnExactBoundaryForms", unfollowed := true, recurses := true, plainKeys := false, apart := false, narrowed := true }
def FnExactBoundaryFormsUptoSaid : Prop := fnExactBoundaryFormsUptoRow.holds Tryz.pinned (OpenSpec.upto fnExactBoundaryFormsSpec)

end Rows
end Go.Proofs.YtfodlhkoafhplaaGreat
