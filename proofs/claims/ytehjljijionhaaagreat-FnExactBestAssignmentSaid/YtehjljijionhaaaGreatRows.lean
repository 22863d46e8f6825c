/-
  No cell of these rows narrows 'for every input' (looked for: loops, veiled, ifaces, maps, wideKeys, modest, calm, conditions, laid).
  DERIVED. THE GIVEN ROWS OF THIS SEAT. 12 by the template 'for every input the law returns true; each argument reads behind the call as it read before'; 0 by the template 'total and deterministic' (their statements: YtehjljijionhaaaGreatTotals.lean).
  GIVEN WITH THE SEED: the statements are not yours to turn. If you find one false, say at which input.
  Laid BY PROGRAM, IN A SANDBOX (cutbox-rows.mjs): the forced cells as the released guide's own fill.sh prints them over the translation 2702cf686e38fdbc… (all of the seat's roots in one cut). By AI agents, Wed Nov 11 2026. No macro, syntax, notation, axiom, sorry.
-/
import Derived.Test.YtehjljijionhaaaGreatChecked
import GoSem.Claim
import GoSem.ClaimJoined
import GoSem.ClaimMapViews
import Derived.JoinedTies
import Derived.KernelRfl
namespace Go.Proofs.YtehjljijionhaaaGreat
/- THE CELL 'sum', in the pinned program and in every row, IS THE sha256 OF THE DUMP (.gsa) THAT YtehjljijionhaaaGreatProg.lean LOADS. Nothing in Lean hashes anything: it is a label: what it is worth is what the hold of that sum in a sandbox is worth. -/
noncomputable def Tryz.pinned : Pinned := { name := "ytehjljijionhaaagreat", sum := "2702cf686e38fdbc6ac3731f57a6cfc76ba061cad8a048a60d5f3346b3a1c91a", checked := Tryz.checked }
namespace Rows
def none {H : Type} : Left H := { results := [], args := [] }

/-- 'laws.FnExactTotalOf': WHATEVER THE INPUT: true; the input reads as it did. -/
def fnExactTotalOfSpec : ChangeSpec := { name := "fnExactTotalOf", fn := fun _ => fun
  | [d] => { results := [.lit (.bool true)], args := [d] }
  | _ => none }
def fnExactTotalOfRow : OpenClaim := { program := "ytehjljijionhaaagreat", sum := "2702cf686e38fdbc6ac3731f57a6cfc76ba061cad8a048a60d5f3346b3a1c91a", func := "loop.example/g03211/laws.FnExactTotalOf", spec := "fnExactTotalOf", apart := false }
def FnExactTotalOfSaid : Prop := fnExactTotalOfRow.holds Tryz.pinned (OpenSpec.ofChange fnExactTotalOfSpec)

/-- ITS FALSE NEIGHBOUR: 'it returns false'. Refute it at one input. -/
def fnExactTotalOfWrong : ChangeSpec := { name := "fnExactTotalOf", fn := fun _ => fun
  | [d] => { results := [.lit (.bool false)], args := [d] }
  | _ => none }
def FnExactTotalOfWrongFalsely : Prop := fnExactTotalOfRow.holds Tryz.pinned (OpenSpec.ofChange fnExactTotalOfWrong)

/-- 'laws.FnExactContract': WHATEVER THE INPUT: true; the input reads as it did. -/
def fnExactContractSpec : ChangeSpec := { name := "fnExactContract", fn := fun _ => fun
  | [d1, d2] => { results := [.lit (.bool true)], args := [d1, d2] }
  | _ => none }
def fnExactContractRow : OpenClaim := { program := "ytehjljijionhaaagreat", sum := "2702cf686e38fdbc6ac3731f57a6cfc76ba061cad8a048a60d5f3346b3a1c91a", func := "loop.example/g03211/laws.FnExactContract", spec := "fnExactContract", apart := false }
def FnExactContractSaid : Prop := fnExactContractRow.holds Tryz.pinned (OpenSpec.ofChange fnExactContractSpec)

/-- ITS FALSE NEIGHBOUR: 'it returns false'. Refute it at one input. -/
def fnExactContractWrong : ChangeSpec := { name := "fnExactContract", fn := fun _ => fun
  | [d1, d2] => { results := [.lit (.bool false)], args := [d1, d2] }
  | _ => none }
def FnExactContractWrongFalsely : Prop := fnExactContractRow.holds Tryz.pinned (OpenSpec.ofChange fnExactContractWrong)

/-- 'laws.FnExactMarginal': WHATEVER THE INPUT: true; the input reads as it did. -/
def fnExactMarginalSpec : ChangeSpec := { name := "fnExactMarginal", fn := fun _ => fun
  | [d1, d2] => { results := [.lit (.bool true)], args := [d1, d2] }
  | _ => none }
def fnExactMarginalRow : OpenClaim := { program := "ytehjljijionhaaagreat", sum := "2702cf686e38fdbc6ac3731f57a6cfc76ba061cad8a048a60d5f3346b3a1c91a", func := "loop.example/g03211/laws.FnExactMarginal", spec := "fnExactMarginal", apart := false }
def FnExactMarginalSaid : Prop := fnExactMarginalRow.holds Tryz.pinned (OpenSpec.ofChange fnExactMarginalSpec)

/-- ITS FALSE NEIGHBOUR: 'it returns false'. Refute it at one input. -/
def fnExactMarginalWrong : ChangeSpec := { name := "fnExactMarginal", fn := fun _ => fun
  | [d1, d2] => { results := [.lit (.bool false)], args := [d1, d2] }
  | _ => none }
def FnExactMarginalWrongFalsely : Prop := fnExactMarginalRow.holds Tryz.pinned (OpenSpec.ofChange fnExactMarginalWrong)

/-- 'laws.FnExactBestOf': WHATEVER THE INPUT: true; the input reads as it did. -/
def fnExactBestOfSpec : ChangeSpec := { name := "fnExactBestOf", fn := fun _ => fun
  | [d1, d2] => { results := [.lit (.bool true)], args := [d1, d2] }
  | _ => none }
def fnExactBestOfRow : OpenClaim := { program := "ytehjljijionhaaagreat", sum := "2702cf686e38fdbc6ac3731f57a6cfc76ba061cad8a048a60d5f3346b3a1c91a", func := "loop.example/g03211/laws.FnExactBestOf", spec := "fnExactBestOf", apart := false }
def FnExactBestOfSaid : Prop := fnExactBestOfRow.holds Tryz.pinned (OpenSpec.ofChange fnExactBestOfSpec)

/-- ITS FALSE NEIGHBOUR: 'it returns false'. Refute it at one input. -/
def fnExactBestOfWrong : ChangeSpec := { name := "fnExactBestOf", fn := fun _ => fun
  | [d1, d2] => { results := [.lit (.bool false)], args := [d1, d2] }
  | _ => none }
def FnExactBestOfWrongFalsely : Prop := fnExactBestOfRow.holds Tryz.pinned (OpenSpec.ofChange fnExactBestOfWrong)

/-- 'laws.FnExactEnvironment': WHATEVER THE INPUT: true; the input reads as it did. -/
def fnExactEnvironmentSpec : ChangeSpec := { name := "fnExactEnvironment", fn := fun _ => fun
  | [d1, d2] => { results := [.lit (.bool true)], args := [d1, d2] }
  | _ => none }
def fnExactEnvironmentRow : OpenClaim := { program := "ytehjljijionhaaagreat", sum := "2702cf686e38fdbc6ac3731f57a6cfc76ba061cad8a048a60d5f3346b3a1c91a", func := "loop.example/g03211/laws.FnExactEnvironment", spec := "fnExactEnvironment", apart := false }
def FnExactEnvironmentSaid : Prop := fnExactEnvironmentRow.holds Tryz.pinned (OpenSpec.ofChange fnExactEnvironmentSpec)

/-- ITS FALSE NEIGHBOUR: 'it returns false'. Refute it at one input. -/
def fnExactEnvironmentWrong : ChangeSpec := { name := "fnExactEnvironment", fn := fun _ => fun
  | [d1, d2] => { results := [.lit (.bool false)], args := [d1, d2] }
  | _ => none }
def FnExactEnvironmentWrongFalsely : Prop := fnExactEnvironmentRow.holds Tryz.pinned (OpenSpec.ofChange fnExactEnvironmentWrong)

/-- 'laws.FnExactCountPositive': WHATEVER THE INPUT: true; the input reads as it did. -/
def fnExactCountPositiveSpec : ChangeSpec := { name := "fnExactCountPositive", fn := fun _ => fun
  | [d] => { results := [.lit (.bool true)], args := [d] }
  | _ => none }
def fnExactCountPositiveRow : OpenClaim := { program := "ytehjljijionhaaagreat", sum := "2702cf686e38fdbc6ac3731f57a6cfc76ba061cad8a048a60d5f3346b3a1c91a", func := "loop.example/g03211/laws.FnExactCountPositive", spec := "fnExactCountPositive", apart := false }
def FnExactCountPositiveSaid : Prop := fnExactCountPositiveRow.holds Tryz.pinned (OpenSpec.ofChange fnExactCountPositiveSpec)

/-- ITS FALSE NEIGHBOUR: 'it returns false'. Refute it at one input. -/
def fnExactCountPositiveWrong : ChangeSpec := { name := "fnExactCountPositive", fn := fun _ => fun
  | [d] => { results := [.lit (.bool false)], args := [d] }
  | _ => none }
def FnExactCountPositiveWrongFalsely : Prop := fnExactCountPositiveRow.holds Tryz.pinned (OpenSpec.ofChange fnExactCountPositiveWrong)

/-- 'laws.FnExactIsBest': WHATEVER THE INPUT: true; the input reads as it did. -/
def fnExactIsBestSpec : ChangeSpec := { name := "fnExactIsBest", fn := fun _ => fun
  | [d1, d2] => { results := [.lit (.bool true)], args := [d1, d2] }
  | _ => none }
def fnExactIsBestRow : OpenClaim := { program := "ytehjljijionhaaagreat", sum := "2702cf686e38fdbc6ac3731f57a6cfc76ba061cad8a048a60d5f3346b3a1c91a", func := "loop.example/g03211/laws.FnExactIsBest", spec := "fnExactIsBest", apart := false }
def FnExactIsBestSaid : Prop := fnExactIsBestRow.holds Tryz.pinned (OpenSpec.ofChange fnExactIsBestSpec)

/-- ITS FALSE NEIGHBOUR: 'it returns false'. Refute it at one input. -/
def fnExactIsBestWrong : ChangeSpec := { name := "fnExactIsBest", fn := fun _ => fun
  | [d1, d2] => { results := [.lit (.bool false)], args := [d1, d2] }
  | _ => none }
def FnExactIsBestWrongFalsely : Prop := fnExactIsBestRow.holds Tryz.pinned (OpenSpec.ofChange fnExactIsBestWrong)

/-- 'laws.FnExactContractReplaced': WHATEVER THE INPUT: true; the input reads as it did. -/
def fnExactContractReplacedSpec : ChangeSpec := { name := "fnExactContractReplaced", fn := fun _ => fun
  | [d1, d2, d3] => { results := [.lit (.bool true)], args := [d1, d2, d3] }
  | _ => none }
def fnExactContractReplacedRow : OpenClaim := { program := "ytehjljijionhaaagreat", sum := "2702cf686e38fdbc6ac3731f57a6cfc76ba061cad8a048a60d5f3346b3a1c91a", func := "loop.example/g03211/laws.FnExactContractReplaced", spec := "fnExactContractReplaced", apart := false }
def FnExactContractReplacedSaid : Prop := fnExactContractReplacedRow.holds Tryz.pinned (OpenSpec.ofChange fnExactContractReplacedSpec)

/-- ITS FALSE NEIGHBOUR: 'it returns false'. Refute it at one input. -/
def fnExactContractReplacedWrong : ChangeSpec := { name := "fnExactContractReplaced", fn := fun _ => fun
  | [d1, d2, d3] => { results := [.lit (.bool false)], args := [d1, d2, d3] }
  | _ => none }
def FnExactContractReplacedWrongFalsely : Prop := fnExactContractReplacedRow.holds Tryz.pinned (OpenSpec.ofChange fnExactContractReplacedWrong)

/-- 'laws.FnExactBestAssignment': WHATEVER THE INPUT: true; the input reads as it did. -/
def fnExactBestAssignmentSpec : ChangeSpec := { name := "fnExactBestAssignment", fn := fun _ => fun
  | [d] => { results := [.lit (.bool true)], args := [d] }
  | _ => none }
def fnExactBestAssignmentRow : OpenClaim := { program := "ytehjljijionhaaagreat", sum := "2702cf686e38fdbc6ac3731f57a6cfc76ba061cad8a048a60d5f3346b3a1c91a", func := "loop.example/g03211/laws.FnExactBestAssignment", spec := "fnExactBestAssignment", apart := false }
def FnExactBestAssignmentSaid : Prop := fnExactBestAssignmentRow.holds Tryz.pinned (OpenSpec.ofChange fnExactBestAssignmentSpec)

/-- ITS FALSE NEIGHBOUR: 'it returns false'. Refute it at one input. -/
def fnExactBestAssignmentWrong : ChangeSpec := { name := "fnExactBestAssignment", fn := fun _ => fun
  | [d] => { results := [.lit (.bool false)], args := [d] }
  | _ => none }
def FnExactBestAssignmentWrongFalsely : Prop := fnExactBestAssignmentRow.holds Tryz.pinned (OpenSpec.ofChange fnExactBestAssignmentWrong)

/-- 'laws.FnExactAssignmentAt': WHATEVER THE INPUT: true; the input reads as it did. -/
def fnExactAssignmentAtSpec : ChangeSpec := { name := "fnExactAssignmentAt", fn := fun _ => fun
  | [d1, d2] => { results := [.lit (.bool true)], args := [d1, d2] }
  | _ => none }
def fnExactAssignmentAtRow : OpenClaim := { program := "ytehjljijionhaaagreat", sum := "2702cf686e38fdbc6ac3731f57a6cfc76ba061cad8a048a60d5f3346b3a1c91a", func := "loop.example/g03211/laws.FnExactAssignmentAt", spec := "fnExactAssignmentAt", apart := false }
def FnExactAssignmentAtSaid : Prop := fnExactAssignmentAtRow.holds Tryz.pinned (OpenSpec.ofChange fnExactAssignmentAtSpec)

/-- ITS FALSE NEIGHBOUR: 'it returns false'. Refute it at one input. -/
def fnExactAssignmentAtWrong : ChangeSpec := { name := "fnExactAssignmentAt", fn := fun _ => fun
  | [d1, d2] => { results := [.lit (.bool false)], args := [d1, d2] }
  | _ => none }
def FnExactAssignmentAtWrongFalsely : Prop := fnExactAssignmentAtRow.holds Tryz.pinned (OpenSpec.ofChange fnExactAssignmentAtWrong)

/-- 'laws.FnExactRankOf': WHATEVER THE INPUT: true; the input reads as it did. -/
def fnExactRankOfSpec : ChangeSpec := { name := "fnExactRankOf", fn := fun _ => fun
  | [d1, d2] => { results := [.lit (.bool true)], args := [d1, d2] }
  | _ => none }
def fnExactRankOfRow : OpenClaim := { program := "ytehjljijionhaaagreat", sum := "2702cf686e38fdbc6ac3731f57a6cfc76ba061cad8a048a60d5f3346b3a1c91a", func := "loop.example/g03211/laws.FnExactRankOf", spec := "fnExactRankOf", apart := false }
def FnExactRankOfSaid : Prop := fnExactRankOfRow.holds Tryz.pinned (OpenSpec.ofChange fnExactRankOfSpec)

/-- ITS FALSE NEIGHBOUR: 'it returns false'. Refute it at one input. -/
def fnExactRankOfWrong : ChangeSpec := { name := "fnExactRankOf", fn := fun _ => fun
  | [d1, d2] => { results := [.lit (.bool false)], args := [d1, d2] }
  | _ => none }
def FnExactRankOfWrongFalsely : Prop := fnExactRankOfRow.holds Tryz.pinned (OpenSpec.ofChange fnExactRankOfWrong)

/-- 'laws.FnExactNextPositive': WHATEVER THE INPUT: true; the input reads as it did. -/
def fnExactNextPositiveSpec : ChangeSpec := { name := "fnExactNextPositive", fn := fun _ => fun
  | [d1, d2] => { results := [.lit (.bool true)], args := [d1, d2] }
  | _ => none }
def fnExactNextPositiveRow : OpenClaim := { program := "ytehjljijionhaaagreat", sum := "2702cf686e38fdbc6ac3731f57a6cfc76ba061cad8a048a60d5f3346b3a1c91a", func := "loop.example/g03211/laws.FnExactNextPositive", spec := "fnExactNextPositive", apart := false }
def FnExactNextPositiveSaid : Prop := fnExactNextPositiveRow.holds Tryz.pinned (OpenSpec.ofChange fnExactNextPositiveSpec)

/-- ITS FALSE NEIGHBOUR: 'it returns false'. Refute it at one input. -/
def fnExactNextPositiveWrong : ChangeSpec := { name := "fnExactNextPositive", fn := fun _ => fun
  | [d1, d2] => { results := [.lit (.bool false)], args := [d1, d2] }
  | _ => none }
def FnExactNextPositiveWrongFalsely : Prop := fnExactNextPositiveRow.holds Tryz.pinned (OpenSpec.ofChange fnExactNextPositiveWrong)

/- THE SECOND FORM. 'bulk': how many values and letters a reading holds, each counted each time it is reached (what is shared counts as often as it is met; a slice's spare places count too). A statement '..UptoSaid' is the law's where the arguments, and the package variables that the reading takes, are together of bulk at most 1048576: NARROWER than '..Said'. Prove '..Said' where nothing that the law and all that it calls make is longer than what came in: it says more and counts as full. Else prove '..UptoSaid'. A law counts once. -/
mutual
def uptoBulk {H : Type} : DataW H → Nat
  | .lit (.string bytes) => bytes.length + 1
  | .lit _ => 1
  | .nil => 1
  | .ptr d => uptoBulk d + 1
  | .slice elems spare => uptoBulkAll elems + uptoBulkAll spare + 1
  | .agg parts => uptoBulkAll parts + 1
  | .iface _ d => uptoBulk d + 1
  | .map entries => uptoBulkEntries entries + 1
  | .held _ => 1
def uptoBulkAll {H : Type} : List (DataW H) → Nat
  | [] => 0
  | d :: r => uptoBulk d + uptoBulkAll r
def uptoBulkEntries {H : Type} : List (Lit × DataW H) → Nat
  | [] => 0
  | x :: r => uptoBulkEntry x + uptoBulkEntries r
def uptoBulkEntry {H : Type} : Lit × DataW H → Nat
  | (.string bytes, d) => bytes.length + uptoBulk d + 1
  | (_, d) => uptoBulk d + 1
 end
def uptoSmall : (H : Type) → List (DataW H) → Bool := fun _ ds => decide (uptoBulkAll ds ≤ 1048576)
def OpenSpec.upto (s : _root_.Go.ChangeSpec) : _root_.Go.OpenSpec := { _root_.Go.OpenSpec.ofChange s with cond := some uptoSmall }

/-- 'laws.FnExactTotalOf', WHERE WHAT IT READS IS OF BULK AT MOST 1048576: true; the input reads as it did. -/
def fnExactTotalOfUptoRow : OpenClaim := { program := "ytehjljijionhaaagreat", sum := "2702cf686e38fdbc6ac3731f57a6cfc76ba061cad8a048a60d5f3346b3a1c91a", func := "loop.example/g03211/laws.FnExactTotalOf", spec := "fnExactTotalOf", apart := false, narrowed := true }
def FnExactTotalOfUptoSaid : Prop := fnExactTotalOfUptoRow.holds Tryz.pinned (OpenSpec.upto fnExactTotalOfSpec)

/-- 'laws.FnExactContract', WHERE WHAT IT READS IS OF BULK AT MOST 1048576: true; the input reads as it did. -/
def fnExactContractUptoRow : OpenClaim := { program := "ytehjljijionhaaagreat", sum := "2702cf686e38fdbc6ac3731f57a6cfc76ba061cad8a048a60d5f3346b3a1c91a", func := "loop.example/g03211/laws.FnExactContract", spec := "fnExactContract", apart := false, narrowed := true }
def FnExactContractUptoSaid : Prop := fnExactContractUptoRow.holds Tryz.pinned (OpenSpec.upto fnExactContractSpec)

/-- 'laws.FnExactMarginal', WHERE WHAT IT READS IS OF BULK AT MOST 1048576: true; the input reads as it did. -/
def fnExactMarginalUptoRow : OpenClaim := { program := "ytehjljijionhaaagreat", sum := "2702cf686e38fdbc6ac3731f57a6cfc76ba061cad8a048a60d5f3346b3a1c91a", func := "loop.example/g03211/laws.FnExactMarginal", spec := "fnExactMarginal", apart := false, narrowed := true }
def FnExactMarginalUptoSaid : Prop := fnExactMarginalUptoRow.holds Tryz.pinned (OpenSpec.upto fnExactMarginalSpec)

/-- 'laws.FnExactBestOf', WHERE WHAT IT READS IS OF BULK AT MOST 1048576: true; the input reads as it did. -/
def fnExactBestOfUptoRow : OpenClaim := { program := "ytehjljijionhaaagreat", sum := "2702cf686e38fdbc6ac3731f57a6cfc76ba061cad8a048a60d5f3346b3a1c91a", func := "loop.example/g03211/laws.FnExactBestOf", spec := "fnExactBestOf", apart := false, narrowed := true }
def FnExactBestOfUptoSaid : Prop := fnExactBestOfUptoRow.holds Tryz.pinned (OpenSpec.upto fnExactBestOfSpec)

/-- 'laws.FnExactEnvironment', WHERE WHAT IT READS IS OF BULK AT MOST 1048576: true; the input reads as it did. -/
def fnExactEnvironmentUptoRow : OpenClaim := { program := "ytehjljijionhaaagreat", sum := "2702cf686e38fdbc6ac3731f57a6cfc76ba061cad8a048a60d5f3346b3a1c91a", func := "loop.example/g03211/laws.FnExactEnvironment", spec := "fnExactEnvironment", apart := false, narrowed := true }
def FnExactEnvironmentUptoSaid : Prop := fnExactEnvironmentUptoRow.holds Tryz.pinned (OpenSpec.upto fnExactEnvironmentSpec)

/-- 'laws.FnExactCountPositive', WHERE WHAT IT READS IS OF BULK AT MOST 1048576: true; the input reads as it did. -/
def fnExactCountPositiveUptoRow : OpenClaim := { program := "ytehjljijionhaaagreat", sum := "2702cf686e38fdbc6ac3731f57a6cfc76ba061cad8a048a60d5f3346b3a1c91a", func := "loop.example/g03211/laws.FnExactCountPositive", spec := "fnExactCountPositive", apart := false, narrowed := true }
def FnExactCountPositiveUptoSaid : Prop := fnExactCountPositiveUptoRow.holds Tryz.pinned (OpenSpec.upto fnExactCountPositiveSpec)

/-- 'laws.FnExactIsBest', WHERE WHAT IT READS IS OF BULK AT MOST 1048576: true; the input reads as it did. -/
def fnExactIsBestUptoRow : OpenClaim := { program := "ytehjljijionhaaagreat", sum := "2702cf686e38fdbc6ac3731f57a6cfc76ba061cad8a048a60d5f3346b3a1c91a", func := "loop.example/g03211/laws.FnExactIsBest", spec := "fnExactIsBest", apart := false, narrowed := true }
def FnExactIsBestUptoSaid : Prop := fnExactIsBestUptoRow.holds Tryz.pinned (OpenSpec.upto fnExactIsBestSpec)

/-- 'laws.FnExactContractReplaced', WHERE WHAT IT READS IS OF BULK AT MOST 1048576: true; the input reads as it did. -/
def fnExactContractReplacedUptoRow : OpenClaim := { program := "ytehjljijionhaaagreat", sum := "2702cf686e38fdbc6ac3731f57a6cfc76ba061cad8a048a60d5f3346b3a1c91a", func := "loop.example/g03211/laws.FnExactContractReplaced", spec := "fnExactContractReplaced", apart := false, narrowed := true }
def FnExactContractReplacedUptoSaid : Prop := fnExactContractReplacedUptoRow.holds Tryz.pinned (OpenSpec.upto fnExactContractReplacedSpec)

/-- 'laws.FnExactBestAssignment', WHERE WHAT IT READS IS OF BULK AT MOST 1048576: true; the input reads as it did. -/
def fnExactBestAssignmentUptoRow : OpenClaim := { program := "ytehjljijionhaaagreat", sum := "2702cf686e38fdbc6ac3731f57a6cfc76ba061cad8a048a60d5f3346b3a1c91a", func := "loop.example/g03211/laws.FnExactBestAssignment", spec := "fnExactBestAssignment", apart := false, narrowed := true }
def FnExactBestAssignmentUptoSaid : Prop := fnExactBestAssignmentUptoRow.holds Tryz.pinned (OpenSpec.upto fnExactBestAssignmentSpec)

/-- 'laws.FnExactAssignmentAt', WHERE WHAT IT READS IS OF BULK AT MOST 1048576: true; the input reads as it did. -/
def fnExactAssignmentAtUptoRow : OpenClaim := { program := "ytehjljijionhaaagreat", sum := "2702cf686e38fdbc6ac3731f57a6cfc76ba061cad8a048a60d5f3346b3a1c91a", func := "loop.example/g03211/laws.FnExactAssignmentAt", spec := "fnExactAssignmentAt", apart := false, narrowed := true }
def FnExactAssignmentAtUptoSaid : Prop := fnExactAssignmentAtUptoRow.holds Tryz.pinned (OpenSpec.upto fnExactAssignmentAtSpec)

/-- 'laws.FnExactRankOf', WHERE WHAT IT READS IS OF BULK AT MOST 1048576: true; the input reads as it did. -/
def fnExactRankOfUptoRow : OpenClaim := { program := "ytehjljijionhaaagreat", sum := "2702cf686e38fdbc6ac3731f57a6cfc76ba061cad8a048a60d5f3346b3a1c91a", func := "loop.example/g03211/laws.FnExactRankOf", spec := "fnExactRankOf", apart := false, narrowed := true }
def FnExactRankOfUptoSaid : Prop := fnExactRankOfUptoRow.holds Tryz.pinned (OpenSpec.upto fnExactRankOfSpec)

/-- 'laws.FnExactNextPositive', WHERE WHAT IT READS IS OF BULK AT MOST 1048576: true; the input reads as it did. -/
def fnExactNextPositiveUptoRow : OpenClaim := { program := "ytehjljijionhaaagreat", sum := "2702cf686e38fdbc6ac3731f57a6cfc76ba061cad8a048a60d5f3346b3a1c91a", func := "loop.example/g03211/laws.FnExactNextPositive", spec := "fnExactNextPositive", apart := false, narrowed := true }
def FnExactNextPositiveUptoSaid : Prop := fnExactNextPositiveUptoRow.holds Tryz.pinned (OpenSpec.upto fnExactNextPositiveSpec)

end Rows
end Go.Proofs.YtehjljijionhaaaGreat
