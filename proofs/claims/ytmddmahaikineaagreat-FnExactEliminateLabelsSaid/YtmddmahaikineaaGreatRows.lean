/-
  No cell of these rows narrows 'for every input' (looked for: loops, veiled, ifaces, maps, wideKeys, modest, calm, conditions, laid).
  DERIVED. THE GIVEN ROWS OF THIS SEAT. 8 by the template 'for every input the law returns true; each argument reads behind the call as it read before'; 0 by the template 'total and deterministic' (their statements: YtmddmahaikineaaGreatTotals.lean).
  GIVEN WITH THE SEED: the statements are not yours to turn. If you find one false, say at which input.
  Laid BY PROGRAM, IN A SANDBOX (cutbox-rows.mjs): the forced cells as the released guide's own fill.sh prints them over the translation 98b46a97388a2e9c… (all of the seat's roots in one cut). By AI agents, Wed Nov 11 2026. No macro, syntax, notation, axiom, sorry.
-/
import Derived.Test.YtmddmahaikineaaGreatChecked
import GoSem.Claim
import GoSem.ClaimJoined
import GoSem.ClaimMapViews
import Derived.JoinedTies
import Derived.KernelRfl
namespace Go.Proofs.YtmddmahaikineaaGreat
/- THE CELL 'sum', in the pinned program and in every row, IS THE sha256 OF THE DUMP (.gsa) THAT YtmddmahaikineaaGreatProg.lean LOADS. Nothing in Lean hashes anything: it is a label: what it is worth is what the hold of that sum in a sandbox is worth. -/
noncomputable def Tryz.pinned : Pinned := { name := "ytmddmahaikineaagreat", sum := "98b46a97388a2e9ce0a95c648b55c5c3deae9b87aee9716b8b5553a168730c63", checked := Tryz.checked }
namespace Rows
def none {H : Type} : Left H := { results := [], args := [] }

/-- 'laws.FnExactSimplifyNetwork': WHATEVER THE INPUT: true; the input reads as it did. -/
def fnExactSimplifyNetworkSpec : ChangeSpec := { name := "fnExactSimplifyNetwork", fn := fun _ => fun
  | [d] => { results := [.lit (.bool true)], args := [d] }
  | _ => none }
def fnExactSimplifyNetworkRow : OpenClaim := { program := "ytmddmahaikineaagreat", sum := "98b46a97388a2e9ce0a95c648b55c5c3deae9b87aee9716b8b5553a168730c63", func := "loop.example/g03211/laws.FnExactSimplifyNetwork", spec := "fnExactSimplifyNetwork", apart := false }
def FnExactSimplifyNetworkSaid : Prop := fnExactSimplifyNetworkRow.holds Tryz.pinned (OpenSpec.ofChange fnExactSimplifyNetworkSpec)

/-- ITS FALSE NEIGHBOUR: 'it returns false'. Refute it at one input. -/
def fnExactSimplifyNetworkWrong : ChangeSpec := { name := "fnExactSimplifyNetwork", fn := fun _ => fun
  | [d] => { results := [.lit (.bool false)], args := [d] }
  | _ => none }
def FnExactSimplifyNetworkWrongFalsely : Prop := fnExactSimplifyNetworkRow.holds Tryz.pinned (OpenSpec.ofChange fnExactSimplifyNetworkWrong)

/-- 'laws.FnExactEliminateLabels': WHATEVER THE INPUT: true; the input reads as it did. -/
def fnExactEliminateLabelsSpec : ChangeSpec := { name := "fnExactEliminateLabels", fn := fun _ => fun
  | [d1, d2] => { results := [.lit (.bool true)], args := [d1, d2] }
  | _ => none }
def fnExactEliminateLabelsRow : OpenClaim := { program := "ytmddmahaikineaagreat", sum := "98b46a97388a2e9ce0a95c648b55c5c3deae9b87aee9716b8b5553a168730c63", func := "loop.example/g03211/laws.FnExactEliminateLabels", spec := "fnExactEliminateLabels", apart := false }
def FnExactEliminateLabelsSaid : Prop := fnExactEliminateLabelsRow.holds Tryz.pinned (OpenSpec.ofChange fnExactEliminateLabelsSpec)

/-- ITS FALSE NEIGHBOUR: 'it returns false'. Refute it at one input. -/
def fnExactEliminateLabelsWrong : ChangeSpec := { name := "fnExactEliminateLabels", fn := fun _ => fun
  | [d1, d2] => { results := [.lit (.bool false)], args := [d1, d2] }
  | _ => none }
def FnExactEliminateLabelsWrongFalsely : Prop := fnExactEliminateLabelsRow.holds Tryz.pinned (OpenSpec.ofChange fnExactEliminateLabelsWrong)

/-- 'laws.FnExactDecompositionValue': WHATEVER THE INPUT: true; the input reads as it did. -/
def fnExactDecompositionValueSpec : ChangeSpec := { name := "fnExactDecompositionValue", fn := fun _ => fun
  | [d1, d2] => { results := [.lit (.bool true)], args := [d1, d2] }
  | _ => none }
def fnExactDecompositionValueRow : OpenClaim := { program := "ytmddmahaikineaagreat", sum := "98b46a97388a2e9ce0a95c648b55c5c3deae9b87aee9716b8b5553a168730c63", func := "loop.example/g03211/laws.FnExactDecompositionValue", spec := "fnExactDecompositionValue", apart := false }
def FnExactDecompositionValueSaid : Prop := fnExactDecompositionValueRow.holds Tryz.pinned (OpenSpec.ofChange fnExactDecompositionValueSpec)

/-- ITS FALSE NEIGHBOUR: 'it returns false'. Refute it at one input. -/
def fnExactDecompositionValueWrong : ChangeSpec := { name := "fnExactDecompositionValue", fn := fun _ => fun
  | [d1, d2] => { results := [.lit (.bool false)], args := [d1, d2] }
  | _ => none }
def FnExactDecompositionValueWrongFalsely : Prop := fnExactDecompositionValueRow.holds Tryz.pinned (OpenSpec.ofChange fnExactDecompositionValueWrong)

/-- 'laws.FnExactContractReplaced': WHATEVER THE INPUT: true; the input reads as it did. -/
def fnExactContractReplacedSpec : ChangeSpec := { name := "fnExactContractReplaced", fn := fun _ => fun
  | [d1, d2, d3] => { results := [.lit (.bool true)], args := [d1, d2, d3] }
  | _ => none }
def fnExactContractReplacedRow : OpenClaim := { program := "ytmddmahaikineaagreat", sum := "98b46a97388a2e9ce0a95c648b55c5c3deae9b87aee9716b8b5553a168730c63", func := "loop.example/g03211/laws.FnExactContractReplaced", spec := "fnExactContractReplaced", apart := false }
def FnExactContractReplacedSaid : Prop := fnExactContractReplacedRow.holds Tryz.pinned (OpenSpec.ofChange fnExactContractReplacedSpec)

/-- ITS FALSE NEIGHBOUR: 'it returns false'. Refute it at one input. -/
def fnExactContractReplacedWrong : ChangeSpec := { name := "fnExactContractReplaced", fn := fun _ => fun
  | [d1, d2, d3] => { results := [.lit (.bool false)], args := [d1, d2, d3] }
  | _ => none }
def FnExactContractReplacedWrongFalsely : Prop := fnExactContractReplacedRow.holds Tryz.pinned (OpenSpec.ofChange fnExactContractReplacedWrong)

/-- 'laws.FnExactRankOf': WHATEVER THE INPUT: true; the input reads as it did. -/
def fnExactRankOfSpec : ChangeSpec := { name := "fnExactRankOf", fn := fun _ => fun
  | [d1, d2] => { results := [.lit (.bool true)], args := [d1, d2] }
  | _ => none }
def fnExactRankOfRow : OpenClaim := { program := "ytmddmahaikineaagreat", sum := "98b46a97388a2e9ce0a95c648b55c5c3deae9b87aee9716b8b5553a168730c63", func := "loop.example/g03211/laws.FnExactRankOf", spec := "fnExactRankOf", apart := false }
def FnExactRankOfSaid : Prop := fnExactRankOfRow.holds Tryz.pinned (OpenSpec.ofChange fnExactRankOfSpec)

/-- ITS FALSE NEIGHBOUR: 'it returns false'. Refute it at one input. -/
def fnExactRankOfWrong : ChangeSpec := { name := "fnExactRankOf", fn := fun _ => fun
  | [d1, d2] => { results := [.lit (.bool false)], args := [d1, d2] }
  | _ => none }
def FnExactRankOfWrongFalsely : Prop := fnExactRankOfRow.holds Tryz.pinned (OpenSpec.ofChange fnExactRankOfWrong)

/-- 'laws.FnExactNextPositive': WHATEVER THE INPUT: true; the input reads as it did. -/
def fnExactNextPositiveSpec : ChangeSpec := { name := "fnExactNextPositive", fn := fun _ => fun
  | [d1, d2] => { results := [.lit (.bool true)], args := [d1, d2] }
  | _ => none }
def fnExactNextPositiveRow : OpenClaim := { program := "ytmddmahaikineaagreat", sum := "98b46a97388a2e9ce0a95c648b55c5c3deae9b87aee9716b8b5553a168730c63", func := "loop.example/g03211/laws.FnExactNextPositive", spec := "fnExactNextPositive", apart := false }
def FnExactNextPositiveSaid : Prop := fnExactNextPositiveRow.holds Tryz.pinned (OpenSpec.ofChange fnExactNextPositiveSpec)

/-- ITS FALSE NEIGHBOUR: 'it returns false'. Refute it at one input. -/
def fnExactNextPositiveWrong : ChangeSpec := { name := "fnExactNextPositive", fn := fun _ => fun
  | [d1, d2] => { results := [.lit (.bool false)], args := [d1, d2] }
  | _ => none }
def FnExactNextPositiveWrongFalsely : Prop := fnExactNextPositiveRow.holds Tryz.pinned (OpenSpec.ofChange fnExactNextPositiveWrong)

/-- 'laws.FnExactStepJob': WHATEVER THE INPUT: true; the input reads as it did. -/
def fnExactStepJobSpec : ChangeSpec := { name := "fnExactStepJob", fn := fun _ => fun
  | [d1, d2] => { results := [.lit (.bool true)], args := [d1, d2] }
  | _ => none }
def fnExactStepJobRow : OpenClaim := { program := "ytmddmahaikineaagreat", sum := "98b46a97388a2e9ce0a95c648b55c5c3deae9b87aee9716b8b5553a168730c63", func := "loop.example/g03211/laws.FnExactStepJob", spec := "fnExactStepJob", apart := false }
def FnExactStepJobSaid : Prop := fnExactStepJobRow.holds Tryz.pinned (OpenSpec.ofChange fnExactStepJobSpec)

/-- ITS FALSE NEIGHBOUR: 'it returns false'. Refute it at one input. -/
def fnExactStepJobWrong : ChangeSpec := { name := "fnExactStepJob", fn := fun _ => fun
  | [d1, d2] => { results := [.lit (.bool false)], args := [d1, d2] }
  | _ => none }
def FnExactStepJobWrongFalsely : Prop := fnExactStepJobRow.holds Tryz.pinned (OpenSpec.ofChange fnExactStepJobWrong)

/-- 'laws.FnExactRunJob': WHATEVER THE INPUT: true; the input reads as it did. -/
def fnExactRunJobSpec : ChangeSpec := { name := "fnExactRunJob", fn := fun _ => fun
  | [d1, d2, d3] => { results := [.lit (.bool true)], args := [d1, d2, d3] }
  | _ => none }
def fnExactRunJobRow : OpenClaim := { program := "ytmddmahaikineaagreat", sum := "98b46a97388a2e9ce0a95c648b55c5c3deae9b87aee9716b8b5553a168730c63", func := "loop.example/g03211/laws.FnExactRunJob", spec := "fnExactRunJob", apart := false }
def FnExactRunJobSaid : Prop := fnExactRunJobRow.holds Tryz.pinned (OpenSpec.ofChange fnExactRunJobSpec)

/-- ITS FALSE NEIGHBOUR: 'it returns false'. Refute it at one input. -/
def fnExactRunJobWrong : ChangeSpec := { name := "fnExactRunJob", fn := fun _ => fun
  | [d1, d2, d3] => { results := [.lit (.bool false)], args := [d1, d2, d3] }
  | _ => none }
def FnExactRunJobWrongFalsely : Prop := fnExactRunJobRow.holds Tryz.pinned (OpenSpec.ofChange fnExactRunJobWrong)

/- THE SECOND FORM. 'bulk': how many values and letters a reading holds, each counted each time it is reached (what is shared counts as often as it is met; a slice's spare places count too). A statement '..UptoSaid' is the law's where the arguments, and the package variables that the reading takes, are together of bulk at most 1048576: NARROWER than '..Said'. Prove '..Said' where nothing that the law and all that it calls make is longer than what came in: it says more and counts as full. Else prove '..UptoSaid'. A law counts once. -/
mutual
def uptoBulk {H : Type} : DataW H → Nat
  | .lit (.string bytes) => bytes.length + 1
  | .lit _ => 1
  | .nil => 1
  | .ptr d => uptoBulk d + 1
  | .slice elems spare => uptoBulkAll elems + uptoBulkAll spare + 1
  | .agg parts => uptoBulkAll parts + 1
  | .iface _ d => uptoBulk d + 1
  | .map entries => uptoBulkEntries entries + 1
  | .held _ => 1
def uptoBulkAll {H : Type} : List (DataW H) → Nat
  | [] => 0
  | d :: r => uptoBulk d + uptoBulkAll r
def uptoBulkEntries {H : Type} : List (Lit × DataW H) → Nat
  | [] => 0
  | x :: r => uptoBulkEntry x + uptoBulkEntries r
def uptoBulkEntry {H : Type} : Lit × DataW H → Nat
  | (.string bytes, d) => bytes.length + uptoBulk d + 1
  | (_, d) => uptoBulk d + 1
 end
def uptoSmall : (H : Type) → List (DataW H) → Bool := fun _ ds => decide (uptoBulkAll ds ≤ 1048576)
def OpenSpec.upto (s : _root_.Go.ChangeSpec) : _root_.Go.OpenSpec := { _root_.Go.OpenSpec.ofChange s with cond := some uptoSmall }

/-- 'laws.FnExactSimplifyNetwork', WHERE WHAT IT READS IS OF BULK AT MOST 1048576: true; the input reads as it did. -/
def fnExactSimplifyNetworkUptoRow : OpenClaim := { program := "ytmddmahaikineaagreat", sum := "98b46a97388a2e9ce0a95c648b55c5c3deae9b87aee9716b8b5553a168730c63", func := "loop.example/g03211/laws.FnExactSimplifyNetwork", spec := "fnExactSimplifyNetwork", apart := false, narrowed := true }
def FnExactSimplifyNetworkUptoSaid : Prop := fnExactSimplifyNetworkUptoRow.holds Tryz.pinned (OpenSpec.upto fnExactSimplifyNetworkSpec)

/-- 'laws.FnExactEliminateLabels', WHERE WHAT IT READS IS OF BULK AT MOST 1048576: true; the input reads as it did. -/
def fnExactEliminateLabelsUptoRow : OpenClaim := { program := "ytmddmahaikineaagreat", sum := "98b46a97388a2e9ce0a95c648b55c5c3deae9b87aee9716b8b5553a168730c63", func := "loop.example/g03211/laws.FnExactEliminateLabels", spec := "fnExactEliminateLabels", apart := false, narrowed := true }
def FnExactEliminateLabelsUptoSaid : Prop := fnExactEliminateLabelsUptoRow.holds Tryz.pinned (OpenSpec.upto fnExactEliminateLabelsSpec)

/-- 'laws.FnExactDecompositionValue', WHERE WHAT IT READS IS OF BULK AT MOST 1048576: true; the input reads as it did. -/
def fnExactDecompositionValueUptoRow : OpenClaim := { program := "ytmddmahaikineaagreat", sum := "98b46a97388a2e9ce0a95c648b55c5c3deae9b87aee9716b8b5553a168730c63", func := "loop.example/g03211/laws.FnExactDecompositionValue", spec := "fnExactDecompositionValue", apart := false, narrowed := true }
def FnExactDecompositionValueUptoSaid : Prop := fnExactDecompositionValueUptoRow.holds Tryz.pinned (OpenSpec.upto fnExactDecompositionValueSpec)

/-- 'laws.FnExactContractReplaced', WHERE WHAT IT READS IS OF BULK AT MOST 1048576: true; the input reads as it did. -/
def fnExactContractReplacedUptoRow : OpenClaim := { program := "ytmddmahaikineaagreat", sum := "98b46a97388a2e9ce0a95c648b55c5c3deae9b87aee9716b8b5553a168730c63", func := "loop.example/g03211/laws.FnExactContractReplaced", spec := "fnExactContractReplaced", apart := false, narrowed := true }
def FnExactContractReplacedUptoSaid : Prop := fnExactContractReplacedUptoRow.holds Tryz.pinned (OpenSpec.upto fnExactContractReplacedSpec)

/-- 'laws.FnExactRankOf', WHERE WHAT IT READS IS OF BULK AT MOST 1048576: true; the input reads as it did. -/
def fnExactRankOfUptoRow : OpenClaim := { program := "ytmddmahaikineaagreat", sum := "98b46a97388a2e9ce0a95c648b55c5c3deae9b87aee9716b8b5553a168730c63", func := "loop.example/g03211/laws.FnExactRankOf", spec := "fnExactRankOf", apart := false, narrowed := true }
def FnExactRankOfUptoSaid : Prop := fnExactRankOfUptoRow.holds Tryz.pinned (OpenSpec.upto fnExactRankOfSpec)

/-- 'laws.FnExactNextPositive', WHERE WHAT IT READS IS OF BULK AT MOST 1048576: true; the input reads as it did. -/
def fnExactNextPositiveUptoRow : OpenClaim := { program := "ytmddmahaikineaagreat", sum := "98b46a97388a2e9ce0a95c648b55c5c3deae9b87aee9716b8b5553a168730c63", func := "loop.example/g03211/laws.FnExactNextPositive", spec := "fnExactNextPositive", apart := false, narrowed := true }
def FnExactNextPositiveUptoSaid : Prop := fnExactNextPositiveUptoRow.holds Tryz.pinned (OpenSpec.upto fnExactNextPositiveSpec)

/-- 'laws.FnExactStepJob', WHERE WHAT IT READS IS OF BULK AT MOST 1048576: true; the input reads as it did. -/
def fnExactStepJobUptoRow : OpenClaim := { program := "ytmddmahaikineaagreat", sum := "98b46a97388a2e9ce0a95c648b55c5c3deae9b87aee9716b8b5553a168730c63", func := "loop.example/g03211/laws.FnExactStepJob", spec := "fnExactStepJob", apart := false, narrowed := true }
def FnExactStepJobUptoSaid : Prop := fnExactStepJobUptoRow.holds Tryz.pinned (OpenSpec.upto fnExactStepJobSpec)

/-- 'laws.FnExactRunJob', WHERE WHAT IT READS IS OF BULK AT MOST 1048576: true; the input reads as it did. -/
def fnExactRunJobUptoRow : OpenClaim := { program := "ytmddmahaikineaagreat", sum := "98b46a97388a2e9ce0a95c648b55c5c3deae9b87aee9716b8b5553a168730c63", func := "loop.example/g03211/laws.FnExactRunJob", spec := "fnExactRunJob", apart := false, narrowed := true }
def FnExactRunJobUptoSaid : Prop := fnExactRunJobUptoRow.holds Tryz.pinned (OpenSpec.upto fnExactRunJobSpec)

end Rows
end Go.Proofs.YtmddmahaikineaaGreat
