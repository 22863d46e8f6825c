/-
  No cell of these rows narrows 'for every input' (looked for: loops, veiled, ifaces, maps, wideKeys, modest, calm, conditions, laid).
  DERIVED. THE GIVEN ROWS OF THIS SEAT. 12 by the template 'for every input the law returns true; each argument reads behind the call as it read before'; 0 by the template 'total and deterministic' (their statements: YtikeobneipjfnaaTotals.lean).
  GIVEN WITH THE SEED: the statements are not yours to turn. If you find one false, say at which input.
  Laid BY PROGRAM, IN A SANDBOX (cutbox-rows.mjs): the forced cells as the released guide's own fill.sh prints them over the translation 1046e8effc805cf8… (all of the seat's roots in one cut). By AI agents, Wed Nov 11 2026. No macro, syntax, notation, axiom, sorry.
-/
import Derived.Test.YtikeobneipjfnaaChecked
import GoSem.Claim
import GoSem.ClaimJoined
import GoSem.ClaimMapViews
import Derived.JoinedTies
import Derived.KernelRfl
namespace Go.Proofs.Ytikeobneipjfnaa
/- THE CELL 'sum', in the pinned program and in every row, IS THE sha256 OF THE DUMP (.gsa) THAT YtikeobneipjfnaaProg.lean LOADS. Nothing in Lean hashes anything: it is a label: what it is worth is what the hold of that sum in a sandbox is worth. -/
noncomputable def Try.pinned : Pinned := { name := "ytikeobneipjfnaa", sum := "1046e8effc805cf87dd4290673abc8c8bec64dca4cb99161ea34ab689a44041a", checked := Try.checked }
namespace Rows
def none {H : Type} : Left H := { results := [], args := [] }

/-- 'laws.FnExactSumLabels': WHATEVER THE INPUT: true; the input reads as it did. -/
def fnExactSumLabelsSpec : ChangeSpec := { name := "fnExactSumLabels", fn := fun _ => fun
  | [d1, d2, d3] => { results := [.lit (.bool true)], args := [d1, d2, d3] }
  | _ => none }
def fnExactSumLabelsRow : OpenClaim := { program := "ytikeobneipjfnaa", sum := "1046e8effc805cf87dd4290673abc8c8bec64dca4cb99161ea34ab689a44041a", func := "loop.example/g03211/laws.FnExactSumLabels", spec := "fnExactSumLabels", apart := false }
def FnExactSumLabelsSaid : Prop := fnExactSumLabelsRow.holds Try.pinned (OpenSpec.ofChange fnExactSumLabelsSpec)

/-- ITS FALSE NEIGHBOUR: 'it returns false'. Refute it at one input. -/
def fnExactSumLabelsWrong : ChangeSpec := { name := "fnExactSumLabels", fn := fun _ => fun
  | [d1, d2, d3] => { results := [.lit (.bool false)], args := [d1, d2, d3] }
  | _ => none }
def FnExactSumLabelsWrongFalsely : Prop := fnExactSumLabelsRow.holds Try.pinned (OpenSpec.ofChange fnExactSumLabelsWrong)

/-- 'laws.FnExactBestOrder': WHATEVER THE INPUT: true; the input reads as it did. -/
def fnExactBestOrderSpec : ChangeSpec := { name := "fnExactBestOrder", fn := fun _ => fun
  | [d] => { results := [.lit (.bool true)], args := [d] }
  | _ => none }
def fnExactBestOrderRow : OpenClaim := { program := "ytikeobneipjfnaa", sum := "1046e8effc805cf87dd4290673abc8c8bec64dca4cb99161ea34ab689a44041a", func := "loop.example/g03211/laws.FnExactBestOrder", spec := "fnExactBestOrder", recurses := true, apart := false }
def FnExactBestOrderSaid : Prop := fnExactBestOrderRow.holds Try.pinned (OpenSpec.ofChange fnExactBestOrderSpec)

/-- ITS FALSE NEIGHBOUR: 'it returns false'. Refute it at one input. -/
def fnExactBestOrderWrong : ChangeSpec := { name := "fnExactBestOrder", fn := fun _ => fun
  | [d] => { results := [.lit (.bool false)], args := [d] }
  | _ => none }
def FnExactBestOrderWrongFalsely : Prop := fnExactBestOrderRow.holds Try.pinned (OpenSpec.ofChange fnExactBestOrderWrong)

/-- 'laws.FnExactMapNetwork': WHATEVER THE INPUT: true; the input reads as it did. -/
def fnExactMapNetworkSpec : ChangeSpec := { name := "fnExactMapNetwork", fn := fun _ => fun
  | [d1, d2, d3] => { results := [.lit (.bool true)], args := [d1, d2, d3] }
  | _ => none }
def fnExactMapNetworkRow : OpenClaim := { program := "ytikeobneipjfnaa", sum := "1046e8effc805cf87dd4290673abc8c8bec64dca4cb99161ea34ab689a44041a", func := "loop.example/g03211/laws.FnExactMapNetwork", spec := "fnExactMapNetwork", apart := false }
def FnExactMapNetworkSaid : Prop := fnExactMapNetworkRow.holds Try.pinned (OpenSpec.ofChange fnExactMapNetworkSpec)

/-- ITS FALSE NEIGHBOUR: 'it returns false'. Refute it at one input. -/
def fnExactMapNetworkWrong : ChangeSpec := { name := "fnExactMapNetwork", fn := fun _ => fun
  | [d1, d2, d3] => { results := [.lit (.bool false)], args := [d1, d2, d3] }
  | _ => none }
def FnExactMapNetworkWrongFalsely : Prop := fnExactMapNetworkRow.holds Try.pinned (OpenSpec.ofChange fnExactMapNetworkWrong)

/-- 'laws.FnExactCodeOk': WHATEVER THE INPUT: true; the input reads as it did. -/
def fnExactCodeOkSpec : ChangeSpec := { name := "fnExactCodeOk", fn := fun _ => fun
  | [d1, d2] => { results := [.lit (.bool true)], args := [d1, d2] }
  | _ => none }
def fnExactCodeOkRow : OpenClaim := { program := "ytikeobneipjfnaa", sum := "1046e8effc805cf87dd4290673abc8c8bec64dca4cb99161ea34ab689a44041a", func := "loop.example/g03211/laws.FnExactCodeOk", spec := "fnExactCodeOk", apart := false }
def FnExactCodeOkSaid : Prop := fnExactCodeOkRow.holds Try.pinned (OpenSpec.ofChange fnExactCodeOkSpec)

/-- ITS FALSE NEIGHBOUR: 'it returns false'. Refute it at one input. -/
def fnExactCodeOkWrong : ChangeSpec := { name := "fnExactCodeOk", fn := fun _ => fun
  | [d1, d2] => { results := [.lit (.bool false)], args := [d1, d2] }
  | _ => none }
def FnExactCodeOkWrongFalsely : Prop := fnExactCodeOkRow.holds Try.pinned (OpenSpec.ofChange fnExactCodeOkWrong)

/-- 'laws.FnExactListSchedule': WHATEVER THE INPUT: true; the input reads as it did. -/
def fnExactListScheduleSpec : ChangeSpec := { name := "fnExactListSchedule", fn := fun _ => fun
  | [d1, d2, d3] => { results := [.lit (.bool true)], args := [d1, d2, d3] }
  | _ => none }
def fnExactListScheduleRow : OpenClaim := { program := "ytikeobneipjfnaa", sum := "1046e8effc805cf87dd4290673abc8c8bec64dca4cb99161ea34ab689a44041a", func := "loop.example/g03211/laws.FnExactListSchedule", spec := "fnExactListSchedule", unfollowed := true, recurses := true, apart := false }
def FnExactListScheduleSaid : Prop := fnExactListScheduleRow.holds Try.pinned (OpenSpec.ofChange fnExactListScheduleSpec)

/-- ITS FALSE NEIGHBOUR: 'it returns false'. Refute it at one input. -/
def fnExactListScheduleWrong : ChangeSpec := { name := "fnExactListSchedule", fn := fun _ => fun
  | [d1, d2, d3] => { results := [.lit (.bool false)], args := [d1, d2, d3] }
  | _ => none }
def FnExactListScheduleWrongFalsely : Prop := fnExactListScheduleRow.holds Try.pinned (OpenSpec.ofChange fnExactListScheduleWrong)

/-- 'laws.FnExactSameTensor': WHATEVER THE INPUT: true; the input reads as it did. -/
def fnExactSameTensorSpec : ChangeSpec := { name := "fnExactSameTensor", fn := fun _ => fun
  | [d1, d2, d3] => { results := [.lit (.bool true)], args := [d1, d2, d3] }
  | _ => none }
def fnExactSameTensorRow : OpenClaim := { program := "ytikeobneipjfnaa", sum := "1046e8effc805cf87dd4290673abc8c8bec64dca4cb99161ea34ab689a44041a", func := "loop.example/g03211/laws.FnExactSameTensor", spec := "fnExactSameTensor", recurses := true, apart := false }
def FnExactSameTensorSaid : Prop := fnExactSameTensorRow.holds Try.pinned (OpenSpec.ofChange fnExactSameTensorSpec)

/-- ITS FALSE NEIGHBOUR: 'it returns false'. Refute it at one input. -/
def fnExactSameTensorWrong : ChangeSpec := { name := "fnExactSameTensor", fn := fun _ => fun
  | [d1, d2, d3] => { results := [.lit (.bool false)], args := [d1, d2, d3] }
  | _ => none }
def FnExactSameTensorWrongFalsely : Prop := fnExactSameTensorRow.holds Try.pinned (OpenSpec.ofChange fnExactSameTensorWrong)

/-- 'laws.FnExactSortTensor': WHATEVER THE INPUT: true; the input reads as it did. -/
def fnExactSortTensorSpec : ChangeSpec := { name := "fnExactSortTensor", fn := fun _ => fun
  | [d1, d2] => { results := [.lit (.bool true)], args := [d1, d2] }
  | _ => none }
def fnExactSortTensorRow : OpenClaim := { program := "ytikeobneipjfnaa", sum := "1046e8effc805cf87dd4290673abc8c8bec64dca4cb99161ea34ab689a44041a", func := "loop.example/g03211/laws.FnExactSortTensor", spec := "fnExactSortTensor", recurses := true, apart := false }
def FnExactSortTensorSaid : Prop := fnExactSortTensorRow.holds Try.pinned (OpenSpec.ofChange fnExactSortTensorSpec)

/-- ITS FALSE NEIGHBOUR: 'it returns false'. Refute it at one input. -/
def fnExactSortTensorWrong : ChangeSpec := { name := "fnExactSortTensor", fn := fun _ => fun
  | [d1, d2] => { results := [.lit (.bool false)], args := [d1, d2] }
  | _ => none }
def FnExactSortTensorWrongFalsely : Prop := fnExactSortTensorRow.holds Try.pinned (OpenSpec.ofChange fnExactSortTensorWrong)

/-- 'laws.FnExactNetworkValue': WHATEVER THE INPUT: true; the input reads as it did. -/
def fnExactNetworkValueSpec : ChangeSpec := { name := "fnExactNetworkValue", fn := fun _ => fun
  | [d] => { results := [.lit (.bool true)], args := [d] }
  | _ => none }
def fnExactNetworkValueRow : OpenClaim := { program := "ytikeobneipjfnaa", sum := "1046e8effc805cf87dd4290673abc8c8bec64dca4cb99161ea34ab689a44041a", func := "loop.example/g03211/laws.FnExactNetworkValue", spec := "fnExactNetworkValue", apart := false }
def FnExactNetworkValueSaid : Prop := fnExactNetworkValueRow.holds Try.pinned (OpenSpec.ofChange fnExactNetworkValueSpec)

/-- ITS FALSE NEIGHBOUR: 'it returns false'. Refute it at one input. -/
def fnExactNetworkValueWrong : ChangeSpec := { name := "fnExactNetworkValue", fn := fun _ => fun
  | [d] => { results := [.lit (.bool false)], args := [d] }
  | _ => none }
def FnExactNetworkValueWrongFalsely : Prop := fnExactNetworkValueRow.holds Try.pinned (OpenSpec.ofChange fnExactNetworkValueWrong)

/-- 'laws.FnExactImproveOrder': WHATEVER THE INPUT: true; the input reads as it did. -/
def fnExactImproveOrderSpec : ChangeSpec := { name := "fnExactImproveOrder", fn := fun _ => fun
  | [d1, d2, d3, d4] => { results := [.lit (.bool true)], args := [d1, d2, d3, d4] }
  | _ => none }
def fnExactImproveOrderRow : OpenClaim := { program := "ytikeobneipjfnaa", sum := "1046e8effc805cf87dd4290673abc8c8bec64dca4cb99161ea34ab689a44041a", func := "loop.example/g03211/laws.FnExactImproveOrder", spec := "fnExactImproveOrder", apart := false }
def FnExactImproveOrderSaid : Prop := fnExactImproveOrderRow.holds Try.pinned (OpenSpec.ofChange fnExactImproveOrderSpec)

/-- ITS FALSE NEIGHBOUR: 'it returns false'. Refute it at one input. -/
def fnExactImproveOrderWrong : ChangeSpec := { name := "fnExactImproveOrder", fn := fun _ => fun
  | [d1, d2, d3, d4] => { results := [.lit (.bool false)], args := [d1, d2, d3, d4] }
  | _ => none }
def FnExactImproveOrderWrongFalsely : Prop := fnExactImproveOrderRow.holds Try.pinned (OpenSpec.ofChange fnExactImproveOrderWrong)

/-- 'laws.FnExactStartJob': WHATEVER THE INPUT: true; the input reads as it did. -/
def fnExactStartJobSpec : ChangeSpec := { name := "fnExactStartJob", fn := fun _ => fun
  | [d1, d2, d3] => { results := [.lit (.bool true)], args := [d1, d2, d3] }
  | _ => none }
def fnExactStartJobRow : OpenClaim := { program := "ytikeobneipjfnaa", sum := "1046e8effc805cf87dd4290673abc8c8bec64dca4cb99161ea34ab689a44041a", func := "loop.example/g03211/laws.FnExactStartJob", spec := "fnExactStartJob", apart := false }
def FnExactStartJobSaid : Prop := fnExactStartJobRow.holds Try.pinned (OpenSpec.ofChange fnExactStartJobSpec)

/-- ITS FALSE NEIGHBOUR: 'it returns false'. Refute it at one input. -/
def fnExactStartJobWrong : ChangeSpec := { name := "fnExactStartJob", fn := fun _ => fun
  | [d1, d2, d3] => { results := [.lit (.bool false)], args := [d1, d2, d3] }
  | _ => none }
def FnExactStartJobWrongFalsely : Prop := fnExactStartJobRow.holds Try.pinned (OpenSpec.ofChange fnExactStartJobWrong)

/-- 'laws.FnExactCodePeak': WHATEVER THE INPUT: true; the input reads as it did. -/
def fnExactCodePeakSpec : ChangeSpec := { name := "fnExactCodePeak", fn := fun _ => fun
  | [d1, d2] => { results := [.lit (.bool true)], args := [d1, d2] }
  | _ => none }
def fnExactCodePeakRow : OpenClaim := { program := "ytikeobneipjfnaa", sum := "1046e8effc805cf87dd4290673abc8c8bec64dca4cb99161ea34ab689a44041a", func := "loop.example/g03211/laws.FnExactCodePeak", spec := "fnExactCodePeak", unfollowed := true, recurses := true, apart := false }
def FnExactCodePeakSaid : Prop := fnExactCodePeakRow.holds Try.pinned (OpenSpec.ofChange fnExactCodePeakSpec)

/-- ITS FALSE NEIGHBOUR: 'it returns false'. Refute it at one input. -/
def fnExactCodePeakWrong : ChangeSpec := { name := "fnExactCodePeak", fn := fun _ => fun
  | [d1, d2] => { results := [.lit (.bool false)], args := [d1, d2] }
  | _ => none }
def FnExactCodePeakWrongFalsely : Prop := fnExactCodePeakRow.holds Try.pinned (OpenSpec.ofChange fnExactCodePeakWrong)

/-- 'laws.FnExactCompileOrder': WHATEVER THE INPUT: true; the input reads as it did. -/
def fnExactCompileOrderSpec : ChangeSpec := { name := "fnExactCompileOrder", fn := fun _ => fun
  | [d1, d2] => { results := [.lit (.bool true)], args := [d1, d2] }
  | _ => none }
def fnExactCompileOrderRow : OpenClaim := { program := "ytikeobneipjfnaa", sum := "1046e8effc805cf87dd4290673abc8c8bec64dca4cb99161ea34ab689a44041a", func := "loop.example/g03211/laws.FnExactCompileOrder", spec := "fnExactCompileOrder", unfollowed := true, recurses := true, apart := false }
def FnExactCompileOrderSaid : Prop := fnExactCompileOrderRow.holds Try.pinned (OpenSpec.ofChange fnExactCompileOrderSpec)

/-- ITS FALSE NEIGHBOUR: 'it returns false'. Refute it at one input. -/
def fnExactCompileOrderWrong : ChangeSpec := { name := "fnExactCompileOrder", fn := fun _ => fun
  | [d1, d2] => { results := [.lit (.bool false)], args := [d1, d2] }
  | _ => none }
def FnExactCompileOrderWrongFalsely : Prop := fnExactCompileOrderRow.holds Try.pinned (OpenSpec.ofChange fnExactCompileOrderWrong)

/- THE SECOND FORM. 'bulk': how many values and letters a reading holds, each counted each time it is reached (what is shared counts as often as it is met; a slice's spare places count too). A statement '..UptoSaid' is the law's where the arguments, and the package variables that the reading takes, are together of bulk at most 1048576: NARROWER than '..Said'. Prove '..Said' where nothing that the law and all that it calls make is longer than what came in: it says more and counts as full. Else prove '..UptoSaid'. A law counts once. -/
mutual
def uptoBulk {H : Type} : DataW H → Nat
  | .lit (.string bytes) => bytes.length + 1
  | .lit _ => 1
  | .nil => 1
  | .ptr d => uptoBulk d + 1
  | .slice elems spare => uptoBulkAll elems + uptoBulkAll spare + 1
  | .agg parts => uptoBulkAll parts + 1
  | .iface _ d => uptoBulk d + 1
  | .map entries => uptoBulkEntries entries + 1
  | .held _ => 1
def uptoBulkAll {H : Type} : List (DataW H) → Nat
  | [] => 0
  | d :: r => uptoBulk d + uptoBulkAll r
def uptoBulkEntries {H : Type} : List (Lit × DataW H) → Nat
  | [] => 0
  | x :: r => uptoBulkEntry x + uptoBulkEntries r
def uptoBulkEntry {H : Type} : Lit × DataW H → Nat
  | (.string bytes, d) => bytes.length + uptoBulk d + 1
  | (_, d) => uptoBulk d + 1
 end
def uptoSmall : (H : Type) → List (DataW H) → Bool := fun _ ds => decide (uptoBulkAll ds ≤ 1048576)
def OpenSpec.upto (s : _root_.Go.ChangeSpec) : _root_.Go.OpenSpec := { _root_.Go.OpenSpec.ofChange s with cond := some uptoSmall }

/-- 'laws.FnExactSumLabels', WHERE WHAT IT READS IS OF BULK AT MOST 1048576: true; the input reads as it did. -/
def fnExactSumLabelsUptoRow : OpenClaim := { program := "ytikeobneipjfnaa", sum := "1046e8effc805cf87dd4290673abc8c8bec64dca4cb99161ea34ab689a44041a", func := "loop.example/g03211/laws.FnExactSumLabels", spec := "fnExactSumLabels", apart := false, narrowed := true }
def FnExactSumLabelsUptoSaid : Prop := fnExactSumLabelsUptoRow.holds Try.pinned (OpenSpec.upto fnExactSumLabelsSpec)

/-- 'laws.FnExactBestOrder', WHERE WHAT IT READS IS OF BULK AT MOST 1048576: true; the input reads as it did. -/
def fnExactBestOrderUptoRow : OpenClaim := { program := "ytikeobneipjfnaa", sum := "1046e8effc805cf87dd4290673abc8c8bec64dca4cb99161ea34ab689a44041a", func := "loop.example/g03211/laws.FnExactBestOrder", spec := "fnExactBestOrder", recurses := true, apart := false, narrowed := true }
def FnExactBestOrderUptoSaid : Prop := fnExactBestOrderUptoRow.holds Try.pinned (OpenSpec.upto fnExactBestOrderSpec)

/-- 'laws.FnExactMapNetwork', WHERE WHAT IT READS IS OF BULK AT MOST 1048576: true; the input reads as it did. -/
def fnExactMapNetworkUptoRow : OpenClaim := { program := "ytikeobneipjfnaa", sum := "1046e8effc805cf87dd4290673abc8c8bec64dca4cb99161ea34ab689a44041a", func := "loop.example/g03211/laws.FnExactMapNetwork", spec := "fnExactMapNetwork", apart := false, narrowed := true }
def FnExactMapNetworkUptoSaid : Prop := fnExactMapNetworkUptoRow.holds Try.pinned (OpenSpec.upto fnExactMapNetworkSpec)

/-- 'laws.FnExactCodeOk', WHERE WHAT IT READS IS OF BULK AT MOST 1048576: true; the input reads as it did. -/
def fnExactCodeOkUptoRow : OpenClaim := { program := "ytikeobneipjfnaa", sum := "1046e8effc805cf87dd4290673abc8c8bec64dca4cb99161ea34ab689a44041a", func := "loop.example/g03211/laws.FnExactCodeOk", spec := "fnExactCodeOk", apart := false, narrowed := true }
def FnExactCodeOkUptoSaid : Prop := fnExactCodeOkUptoRow.holds Try.pinned (OpenSpec.upto fnExactCodeOkSpec)

/-- 'laws.FnExactListSchedule', WHERE WHAT IT READS IS OF BULK AT MOST 1048576: true; the input reads as it did. -/
def fnExactListScheduleUptoRow : OpenClaim := { program := "ytikeobneipjfnaa", sum := "1046e8effc805cf87dd4290673abc8c8bec64dca4cb99161ea34ab689a44041a", func := "loop.example/g03211/laws.FnExactListSchedule", spec := "fnExactListSchedule", unfollowed := true, recurses := true, apart := false, narrowed := true }
def FnExactListScheduleUptoSaid : Prop := fnExactListScheduleUptoRow.holds Try.pinned (OpenSpec.upto fnExactListScheduleSpec)

/-- 'laws.FnExactSameTensor', WHERE WHAT IT READS IS OF BULK AT MOST 1048576: true; the input reads as it did. -/
def fnExactSameTensorUptoRow : OpenClaim := { program := "ytikeobneipjfnaa", sum := "1046e8effc805cf87dd4290673abc8c8bec64dca4cb99161ea34ab689a44041a", func := "loop.example/g03211/laws.FnExactSameTensor", spec := "fnExactSameTensor", recurses := true, apart := false, narrowed := true }
def FnExactSameTensorUptoSaid : Prop := fnExactSameTensorUptoRow.holds Try.pinned (OpenSpec.upto fnExactSameTensorSpec)

/-- 'laws.FnExactSortTensor', WHERE WHAT IT READS IS OF BULK AT MOST 1048576: true; the input reads as it did. -/
def fnExactSortTensorUptoRow : OpenClaim := { program := "ytikeobneipjfnaa", sum := "1046e8effc805cf87dd4290673abc8c8bec64dca4cb99161ea34ab689a44041a", func := "loop.example/g03211/laws.FnExactSortTensor", spec := "fnExactSortTensor", recurses := true, apart := false, narrowed := true }
def FnExactSortTensorUptoSaid : Prop := fnExactSortTensorUptoRow.holds Try.pinned (OpenSpec.upto fnExactSortTensorSpec)

/-- 'laws.FnExactNetworkValue', WHERE WHAT IT READS IS OF BULK AT MOST 1048576: true; the input reads as it did. -/
def fnExactNetworkValueUptoRow : OpenClaim := { program := "ytikeobneipjfnaa", sum := "1046e8effc805cf87dd4290673abc8c8bec64dca4cb99161ea34ab689a44041a", func := "loop.example/g03211/laws.FnExactNetworkValue", spec := "fnExactNetworkValue", apart := false, narrowed := true }
def FnExactNetworkValueUptoSaid : Prop := fnExactNetworkValueUptoRow.holds Try.pinned (OpenSpec.upto fnExactNetworkValueSpec)

/-- 'laws.FnExactImproveOrder', WHERE WHAT IT READS IS OF BULK AT MOST 1048576: true; the input reads as it did. -/
def fnExactImproveOrderUptoRow : OpenClaim := { program := "ytikeobneipjfnaa", sum := "1046e8effc805cf87dd4290673abc8c8bec64dca4cb99161ea34ab689a44041a", func := "loop.example/g03211/laws.FnExactImproveOrder", spec := "fnExactImproveOrder", apart := false, narrowed := true }
def FnExactImproveOrderUptoSaid : Prop := fnExactImproveOrderUptoRow.holds Try.pinned (OpenSpec.upto fnExactImproveOrderSpec)

/-- 'laws.FnExactStartJob', WHERE WHAT IT READS IS OF BULK AT MOST 1048576: true; the input reads as it did. -/
def fnExactStartJobUptoRow : OpenClaim := { program := "ytikeobneipjfnaa", sum := "1046e8effc805cf87dd4290673abc8c8bec64dca4cb99161ea34ab689a44041a", func := "loop.example/g03211/laws.FnExactStartJob", spec := "fnExactStartJob", apart := false, narrowed := true }
def FnExactStartJobUptoSaid : Prop := fnExactStartJobUptoRow.holds Try.pinned (OpenSpec.upto fnExactStartJobSpec)

/-- 'laws.FnExactCodePeak', WHERE WHAT IT READS IS OF BULK AT MOST 1048576: true; the input reads as it did. -/
def fnExactCodePeakUptoRow : OpenClaim := { program := "ytikeobneipjfnaa", sum := "1046e8effc805cf87dd4290673abc8c8bec64dca4cb99161ea34ab689a44041a", func := "loop.example/g03211/laws.FnExactCodePeak", spec := "fnExactCodePeak", unfollowed := true, recurses := true, apart := false, narrowed := true }
def FnExactCodePeakUptoSaid : Prop := fnExactCodePeakUptoRow.holds Try.pinned (OpenSpec.upto fnExactCodePeakSpec)

/-- 'laws.FnExactCompileOrder', WHERE WHAT IT READS IS OF BULK AT MOST 1048576: true; the input reads as it did. -/
def fnExactCompileOrderUptoRow : OpenClaim := { program := "ytikeobneipjfnaa", sum := "1046e8effc805cf87dd4290673abc8c8bec64dca4cb99161ea34ab689a44041a", func := "loop.example/g03211/laws.FnExactCompileOrder", spec := "fnExactCompileOrder", unfollowed := true, recurses := true, apart := false, narrowed := true }
def FnExactCompileOrderUptoSaid : Prop := fnExactCompileOrderUptoRow.holds Try.pinned (OpenSpec.upto fnExactCompileOrderSpec)

end Rows
end Go.Proofs.Ytikeobneipjfnaa
