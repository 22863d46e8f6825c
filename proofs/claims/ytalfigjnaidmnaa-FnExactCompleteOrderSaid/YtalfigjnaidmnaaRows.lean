/-
  No cell of these rows narrows 'for every input' (looked for: loops, veiled, ifaces, maps, wideKeys, modest, calm, conditions, laid).
  DERIVED. THE GIVEN ROWS OF THIS SEAT. 12 by the template 'for every input the law returns true; each argument reads behind the call as it read before'; 0 by the template 'total and deterministic' (their statements: YtalfigjnaidmnaaTotals.lean).
  GIVEN WITH THE SEED: the statements are not yours to turn. If you find one false, say at which input.
  Laid BY PROGRAM, IN A SANDBOX (cutbox-rows.mjs): the forced cells as the released guide's own fill.sh prints them over the translation 2c8029566cd1137b… (all of the seat's roots in one cut). By AI agents, Wed Nov 11 2026. No macro, syntax, notation, axiom, sorry.
-/
import Derived.Test.YtalfigjnaidmnaaChecked
import GoSem.Claim
import GoSem.ClaimJoined
import GoSem.ClaimMapViews
import Derived.JoinedTies
import Derived.KernelRfl
namespace Go.Proofs.Ytalfigjnaidmnaa
/- THE CELL 'sum', in the pinned program and in every row, IS THE sha256 OF THE DUMP (.gsa) THAT YtalfigjnaidmnaaProg.lean LOADS. Nothing in Lean hashes anything: it is a label: what it is worth is what the hold of that sum in a sandbox is worth. -/
noncomputable def Try.pinned : Pinned := { name := "ytalfigjnaidmnaa", sum := "2c8029566cd1137b68317ee7e6f686d1d70c6115a3268647a1b78ab9ae5e6352", checked := Try.checked }
namespace Rows
def none {H : Type} : Left H := { results := [], args := [] }

/-- 'laws.FnExactWeightOf': WHATEVER THE INPUT: true; the input reads as it did. -/
def fnExactWeightOfSpec : ChangeSpec := { name := "fnExactWeightOf", fn := fun _ => fun
  | [d1, d2] => { results := [.lit (.bool true)], args := [d1, d2] }
  | _ => none }
def fnExactWeightOfRow : OpenClaim := { program := "ytalfigjnaidmnaa", sum := "2c8029566cd1137b68317ee7e6f686d1d70c6115a3268647a1b78ab9ae5e6352", func := "loop.example/g03211/laws.FnExactWeightOf", spec := "fnExactWeightOf", apart := false }
def FnExactWeightOfSaid : Prop := fnExactWeightOfRow.holds Try.pinned (OpenSpec.ofChange fnExactWeightOfSpec)

/-- ITS FALSE NEIGHBOUR: 'it returns false'. Refute it at one input. -/
def fnExactWeightOfWrong : ChangeSpec := { name := "fnExactWeightOf", fn := fun _ => fun
  | [d1, d2] => { results := [.lit (.bool false)], args := [d1, d2] }
  | _ => none }
def FnExactWeightOfWrongFalsely : Prop := fnExactWeightOfRow.holds Try.pinned (OpenSpec.ofChange fnExactWeightOfWrong)

/-- 'laws.FnExactStepLabels': WHATEVER THE INPUT: true; the input reads as it did. -/
def fnExactStepLabelsSpec : ChangeSpec := { name := "fnExactStepLabels", fn := fun _ => fun
  | [d1, d2, d3] => { results := [.lit (.bool true)], args := [d1, d2, d3] }
  | _ => none }
def fnExactStepLabelsRow : OpenClaim := { program := "ytalfigjnaidmnaa", sum := "2c8029566cd1137b68317ee7e6f686d1d70c6115a3268647a1b78ab9ae5e6352", func := "loop.example/g03211/laws.FnExactStepLabels", spec := "fnExactStepLabels", apart := false }
def FnExactStepLabelsSaid : Prop := fnExactStepLabelsRow.holds Try.pinned (OpenSpec.ofChange fnExactStepLabelsSpec)

/-- ITS FALSE NEIGHBOUR: 'it returns false'. Refute it at one input. -/
def fnExactStepLabelsWrong : ChangeSpec := { name := "fnExactStepLabels", fn := fun _ => fun
  | [d1, d2, d3] => { results := [.lit (.bool false)], args := [d1, d2, d3] }
  | _ => none }
def FnExactStepLabelsWrongFalsely : Prop := fnExactStepLabelsRow.holds Try.pinned (OpenSpec.ofChange fnExactStepLabelsWrong)

/-- 'laws.FnExactSumLabels': WHATEVER THE INPUT: true; the input reads as it did. -/
def fnExactSumLabelsSpec : ChangeSpec := { name := "fnExactSumLabels", fn := fun _ => fun
  | [d1, d2, d3] => { results := [.lit (.bool true)], args := [d1, d2, d3] }
  | _ => none }
def fnExactSumLabelsRow : OpenClaim := { program := "ytalfigjnaidmnaa", sum := "2c8029566cd1137b68317ee7e6f686d1d70c6115a3268647a1b78ab9ae5e6352", func := "loop.example/g03211/laws.FnExactSumLabels", spec := "fnExactSumLabels", apart := false }
def FnExactSumLabelsSaid : Prop := fnExactSumLabelsRow.holds Try.pinned (OpenSpec.ofChange fnExactSumLabelsSpec)

/-- ITS FALSE NEIGHBOUR: 'it returns false'. Refute it at one input. -/
def fnExactSumLabelsWrong : ChangeSpec := { name := "fnExactSumLabels", fn := fun _ => fun
  | [d1, d2, d3] => { results := [.lit (.bool false)], args := [d1, d2, d3] }
  | _ => none }
def FnExactSumLabelsWrongFalsely : Prop := fnExactSumLabelsRow.holds Try.pinned (OpenSpec.ofChange fnExactSumLabelsWrong)

/-- 'laws.FnExactMakespan': WHATEVER THE INPUT: true; the input reads as it did. -/
def fnExactMakespanSpec : ChangeSpec := { name := "fnExactMakespan", fn := fun _ => fun
  | [d1, d2, d3] => { results := [.lit (.bool true)], args := [d1, d2, d3] }
  | _ => none }
def fnExactMakespanRow : OpenClaim := { program := "ytalfigjnaidmnaa", sum := "2c8029566cd1137b68317ee7e6f686d1d70c6115a3268647a1b78ab9ae5e6352", func := "loop.example/g03211/laws.FnExactMakespan", spec := "fnExactMakespan", apart := false }
def FnExactMakespanSaid : Prop := fnExactMakespanRow.holds Try.pinned (OpenSpec.ofChange fnExactMakespanSpec)

/-- ITS FALSE NEIGHBOUR: 'it returns false'. Refute it at one input. -/
def fnExactMakespanWrong : ChangeSpec := { name := "fnExactMakespan", fn := fun _ => fun
  | [d1, d2, d3] => { results := [.lit (.bool false)], args := [d1, d2, d3] }
  | _ => none }
def FnExactMakespanWrongFalsely : Prop := fnExactMakespanRow.holds Try.pinned (OpenSpec.ofChange fnExactMakespanWrong)

/-- 'laws.FnExactCriticalTime': WHATEVER THE INPUT: true; the input reads as it did. -/
def fnExactCriticalTimeSpec : ChangeSpec := { name := "fnExactCriticalTime", fn := fun _ => fun
  | [d1, d2] => { results := [.lit (.bool true)], args := [d1, d2] }
  | _ => none }
def fnExactCriticalTimeRow : OpenClaim := { program := "ytalfigjnaidmnaa", sum := "2c8029566cd1137b68317ee7e6f686d1d70c6115a3268647a1b78ab9ae5e6352", func := "loop.example/g03211/laws.FnExactCriticalTime", spec := "fnExactCriticalTime", apart := false }
def FnExactCriticalTimeSaid : Prop := fnExactCriticalTimeRow.holds Try.pinned (OpenSpec.ofChange fnExactCriticalTimeSpec)

/-- ITS FALSE NEIGHBOUR: 'it returns false'. Refute it at one input. -/
def fnExactCriticalTimeWrong : ChangeSpec := { name := "fnExactCriticalTime", fn := fun _ => fun
  | [d1, d2] => { results := [.lit (.bool false)], args := [d1, d2] }
  | _ => none }
def FnExactCriticalTimeWrongFalsely : Prop := fnExactCriticalTimeRow.holds Try.pinned (OpenSpec.ofChange fnExactCriticalTimeWrong)

/-- 'laws.FnExactOrderCosts': WHATEVER THE INPUT: true; the input reads as it did. -/
def fnExactOrderCostsSpec : ChangeSpec := { name := "fnExactOrderCosts", fn := fun _ => fun
  | [d1, d2] => { results := [.lit (.bool true)], args := [d1, d2] }
  | _ => none }
def fnExactOrderCostsRow : OpenClaim := { program := "ytalfigjnaidmnaa", sum := "2c8029566cd1137b68317ee7e6f686d1d70c6115a3268647a1b78ab9ae5e6352", func := "loop.example/g03211/laws.FnExactOrderCosts", spec := "fnExactOrderCosts", apart := false }
def FnExactOrderCostsSaid : Prop := fnExactOrderCostsRow.holds Try.pinned (OpenSpec.ofChange fnExactOrderCostsSpec)

/-- ITS FALSE NEIGHBOUR: 'it returns false'. Refute it at one input. -/
def fnExactOrderCostsWrong : ChangeSpec := { name := "fnExactOrderCosts", fn := fun _ => fun
  | [d1, d2] => { results := [.lit (.bool false)], args := [d1, d2] }
  | _ => none }
def FnExactOrderCostsWrongFalsely : Prop := fnExactOrderCostsRow.holds Try.pinned (OpenSpec.ofChange fnExactOrderCostsWrong)

/-- 'laws.FnExactReplaceTensor': WHATEVER THE INPUT: true; the input reads as it did. -/
def fnExactReplaceTensorSpec : ChangeSpec := { name := "fnExactReplaceTensor", fn := fun _ => fun
  | [d1, d2, d3] => { results := [.lit (.bool true)], args := [d1, d2, d3] }
  | _ => none }
def fnExactReplaceTensorRow : OpenClaim := { program := "ytalfigjnaidmnaa", sum := "2c8029566cd1137b68317ee7e6f686d1d70c6115a3268647a1b78ab9ae5e6352", func := "loop.example/g03211/laws.FnExactReplaceTensor", spec := "fnExactReplaceTensor", apart := false }
def FnExactReplaceTensorSaid : Prop := fnExactReplaceTensorRow.holds Try.pinned (OpenSpec.ofChange fnExactReplaceTensorSpec)

/-- ITS FALSE NEIGHBOUR: 'it returns false'. Refute it at one input. -/
def fnExactReplaceTensorWrong : ChangeSpec := { name := "fnExactReplaceTensor", fn := fun _ => fun
  | [d1, d2, d3] => { results := [.lit (.bool false)], args := [d1, d2, d3] }
  | _ => none }
def FnExactReplaceTensorWrongFalsely : Prop := fnExactReplaceTensorRow.holds Try.pinned (OpenSpec.ofChange fnExactReplaceTensorWrong)

/-- 'laws.FnExactBestOrder': WHATEVER THE INPUT: true; the input reads as it did. -/
def fnExactBestOrderSpec : ChangeSpec := { name := "fnExactBestOrder", fn := fun _ => fun
  | [d] => { results := [.lit (.bool true)], args := [d] }
  | _ => none }
def fnExactBestOrderRow : OpenClaim := { program := "ytalfigjnaidmnaa", sum := "2c8029566cd1137b68317ee7e6f686d1d70c6115a3268647a1b78ab9ae5e6352", func := "loop.example/g03211/laws.FnExactBestOrder", spec := "fnExactBestOrder", recurses := true, apart := false }
def FnExactBestOrderSaid : Prop := fnExactBestOrderRow.holds Try.pinned (OpenSpec.ofChange fnExactBestOrderSpec)

/-- ITS FALSE NEIGHBOUR: 'it returns false'. Refute it at one input. -/
def fnExactBestOrderWrong : ChangeSpec := { name := "fnExactBestOrder", fn := fun _ => fun
  | [d] => { results := [.lit (.bool false)], args := [d] }
  | _ => none }
def FnExactBestOrderWrongFalsely : Prop := fnExactBestOrderRow.holds Try.pinned (OpenSpec.ofChange fnExactBestOrderWrong)

/-- 'laws.FnExactJobOk': WHATEVER THE INPUT: true; the input reads as it did. -/
def fnExactJobOkSpec : ChangeSpec := { name := "fnExactJobOk", fn := fun _ => fun
  | [d1, d2] => { results := [.lit (.bool true)], args := [d1, d2] }
  | _ => none }
def fnExactJobOkRow : OpenClaim := { program := "ytalfigjnaidmnaa", sum := "2c8029566cd1137b68317ee7e6f686d1d70c6115a3268647a1b78ab9ae5e6352", func := "loop.example/g03211/laws.FnExactJobOk", spec := "fnExactJobOk", apart := false }
def FnExactJobOkSaid : Prop := fnExactJobOkRow.holds Try.pinned (OpenSpec.ofChange fnExactJobOkSpec)

/-- ITS FALSE NEIGHBOUR: 'it returns false'. Refute it at one input. -/
def fnExactJobOkWrong : ChangeSpec := { name := "fnExactJobOk", fn := fun _ => fun
  | [d1, d2] => { results := [.lit (.bool false)], args := [d1, d2] }
  | _ => none }
def FnExactJobOkWrongFalsely : Prop := fnExactJobOkRow.holds Try.pinned (OpenSpec.ofChange fnExactJobOkWrong)

/-- 'laws.FnExactScheduleOk': WHATEVER THE INPUT: true; the input reads as it did. -/
def fnExactScheduleOkSpec : ChangeSpec := { name := "fnExactScheduleOk", fn := fun _ => fun
  | [d1, d2, d3, d4] => { results := [.lit (.bool true)], args := [d1, d2, d3, d4] }
  | _ => none }
def fnExactScheduleOkRow : OpenClaim := { program := "ytalfigjnaidmnaa", sum := "2c8029566cd1137b68317ee7e6f686d1d70c6115a3268647a1b78ab9ae5e6352", func := "loop.example/g03211/laws.FnExactScheduleOk", spec := "fnExactScheduleOk", apart := false }
def FnExactScheduleOkSaid : Prop := fnExactScheduleOkRow.holds Try.pinned (OpenSpec.ofChange fnExactScheduleOkSpec)

/-- ITS FALSE NEIGHBOUR: 'it returns false'. Refute it at one input. -/
def fnExactScheduleOkWrong : ChangeSpec := { name := "fnExactScheduleOk", fn := fun _ => fun
  | [d1, d2, d3, d4] => { results := [.lit (.bool false)], args := [d1, d2, d3, d4] }
  | _ => none }
def FnExactScheduleOkWrongFalsely : Prop := fnExactScheduleOkRow.holds Try.pinned (OpenSpec.ofChange fnExactScheduleOkWrong)

/-- 'laws.FnExactCompleteOrder': WHATEVER THE INPUT: true; the input reads as it did. -/
def fnExactCompleteOrderSpec : ChangeSpec := { name := "fnExactCompleteOrder", fn := fun _ => fun
  | [d1, d2] => { results := [.lit (.bool true)], args := [d1, d2] }
  | _ => none }
def fnExactCompleteOrderRow : OpenClaim := { program := "ytalfigjnaidmnaa", sum := "2c8029566cd1137b68317ee7e6f686d1d70c6115a3268647a1b78ab9ae5e6352", func := "loop.example/g03211/laws.FnExactCompleteOrder", spec := "fnExactCompleteOrder", apart := false }
def FnExactCompleteOrderSaid : Prop := fnExactCompleteOrderRow.holds Try.pinned (OpenSpec.ofChange fnExactCompleteOrderSpec)

/-- ITS FALSE NEIGHBOUR: 'it returns false'. Refute it at one input. -/
def fnExactCompleteOrderWrong : ChangeSpec := { name := "fnExactCompleteOrder", fn := fun _ => fun
  | [d1, d2] => { results := [.lit (.bool false)], args := [d1, d2] }
  | _ => none }
def FnExactCompleteOrderWrongFalsely : Prop := fnExactCompleteOrderRow.holds Try.pinned (OpenSpec.ofChange fnExactCompleteOrderWrong)

/-- 'laws.FnExactMapNetwork': WHATEVER THE INPUT: true; the input reads as it did. -/
def fnExactMapNetworkSpec : ChangeSpec := { name := "fnExactMapNetwork", fn := fun _ => fun
  | [d1, d2, d3] => { results := [.lit (.bool true)], args := [d1, d2, d3] }
  | _ => none }
def fnExactMapNetworkRow : OpenClaim := { program := "ytalfigjnaidmnaa", sum := "2c8029566cd1137b68317ee7e6f686d1d70c6115a3268647a1b78ab9ae5e6352", func := "loop.example/g03211/laws.FnExactMapNetwork", spec := "fnExactMapNetwork", apart := false }
def FnExactMapNetworkSaid : Prop := fnExactMapNetworkRow.holds Try.pinned (OpenSpec.ofChange fnExactMapNetworkSpec)

/-- ITS FALSE NEIGHBOUR: 'it returns false'. Refute it at one input. -/
def fnExactMapNetworkWrong : ChangeSpec := { name := "fnExactMapNetwork", fn := fun _ => fun
  | [d1, d2, d3] => { results := [.lit (.bool false)], args := [d1, d2, d3] }
  | _ => none }
def FnExactMapNetworkWrongFalsely : Prop := fnExactMapNetworkRow.holds Try.pinned (OpenSpec.ofChange fnExactMapNetworkWrong)

/- THE SECOND FORM. 'bulk': how many values and letters a reading holds, each counted each time it is reached (what is shared counts as often as it is met; a slice's spare places count too). A statement '..UptoSaid' is the law's where the arguments, and the package variables that the reading takes, are together of bulk at most 1048576: NARROWER than '..Said'. Prove '..Said' where nothing that the law and all that it calls make is longer than what came in: it says more and counts as full. Else prove '..UptoSaid'. A law counts once. -/
mutual
def uptoBulk {H : Type} : DataW H → Nat
  | .lit (.string bytes) => bytes.length + 1
  | .lit _ => 1
  | .nil => 1
  | .ptr d => uptoBulk d + 1
  | .slice elems spare => uptoBulkAll elems + uptoBulkAll spare + 1
  | .agg parts => uptoBulkAll parts + 1
  | .iface _ d => uptoBulk d + 1
  | .map entries => uptoBulkEntries entries + 1
  | .held _ => 1
def uptoBulkAll {H : Type} : List (DataW H) → Nat
  | [] => 0
  | d :: r => uptoBulk d + uptoBulkAll r
def uptoBulkEntries {H : Type} : List (Lit × DataW H) → Nat
  | [] => 0
  | x :: r => uptoBulkEntry x + uptoBulkEntries r
def uptoBulkEntry {H : Type} : Lit × DataW H → Nat
  | (.string bytes, d) => bytes.length + uptoBulk d + 1
  | (_, d) => uptoBulk d + 1
 end
def uptoSmall : (H : Type) → List (DataW H) → Bool := fun _ ds => decide (uptoBulkAll ds ≤ 1048576)
def OpenSpec.upto (s : _root_.Go.ChangeSpec) : _root_.Go.OpenSpec := { _root_.Go.OpenSpec.ofChange s with cond := some uptoSmall }

/-- 'laws.FnExactWeightOf', WHERE WHAT IT READS IS OF BULK AT MOST 1048576: true; the input reads as it did. -/
def fnExactWeightOfUptoRow : OpenClaim := { program := "ytalfigjnaidmnaa", sum := "2c8029566cd1137b68317ee7e6f686d1d70c6115a3268647a1b78ab9ae5e6352", func := "loop.example/g03211/laws.FnExactWeightOf", spec := "fnExactWeightOf", apart := false, narrowed := true }
def FnExactWeightOfUptoSaid : Prop := fnExactWeightOfUptoRow.holds Try.pinned (OpenSpec.upto fnExactWeightOfSpec)

/-- 'laws.FnExactStepLabels', WHERE WHAT IT READS IS OF BULK AT MOST 1048576: true; the input reads as it did. -/
def fnExactStepLabelsUptoRow : OpenClaim := { program := "ytalfigjnaidmnaa", sum := "2c8029566cd1137b68317ee7e6f686d1d70c6115a3268647a1b78ab9ae5e6352", func := "loop.example/g03211/laws.FnExactStepLabels", spec := "fnExactStepLabels", apart := false, narrowed := true }
def FnExactStepLabelsUptoSaid : Prop := fnExactStepLabelsUptoRow.holds Try.pinned (OpenSpec.upto fnExactStepLabelsSpec)

/-- 'laws.FnExactSumLabels', WHERE WHAT IT READS IS OF BULK AT MOST 1048576: true; the input reads as it did. -/
def fnExactSumLabelsUptoRow : OpenClaim := { program := "ytalfigjnaidmnaa", sum := "2c8029566cd1137b68317ee7e6f686d1d70c6115a3268647a1b78ab9ae5e6352", func := "loop.example/g03211/laws.FnExactSumLabels", spec := "fnExactSumLabels", apart := false, narrowed := true }
def FnExactSumLabelsUptoSaid : Prop := fnExactSumLabelsUptoRow.holds Try.pinned (OpenSpec.upto fnExactSumLabelsSpec)

/-- 'laws.FnExactMakespan', WHERE WHAT IT READS IS OF BULK AT MOST 1048576: true; the input reads as it did. -/
def fnExactMakespanUptoRow : OpenClaim := { program := "ytalfigjnaidmnaa", sum := "2c8029566cd1137b68317ee7e6f686d1d70c6115a3268647a1b78ab9ae5e6352", func := "loop.example/g03211/laws.FnExactMakespan", spec := "fnExactMakespan", apart := false, narrowed := true }
def FnExactMakespanUptoSaid : Prop := fnExactMakespanUptoRow.holds Try.pinned (OpenSpec.upto fnExactMakespanSpec)

/-- 'laws.FnExactCriticalTime', WHERE WHAT IT READS IS OF BULK AT MOST 1048576: true; the input reads as it did. -/
def fnExactCriticalTimeUptoRow : OpenClaim := { program := "ytalfigjnaidmnaa", sum := "2c8029566cd1137b68317ee7e6f686d1d70c6115a3268647a1b78ab9ae5e6352", func := "loop.example/g03211/laws.FnExactCriticalTime", spec := "fnExactCriticalTime", apart := false, narrowed := true }
def FnExactCriticalTimeUptoSaid : Prop := fnExactCriticalTimeUptoRow.holds Try.pinned (OpenSpec.upto fnExactCriticalTimeSpec)

/-- 'laws.FnExactOrderCosts', WHERE WHAT IT READS IS OF BULK AT MOST 1048576: true; the input reads as it did. -/
def fnExactOrderCostsUptoRow : OpenClaim := { program := "ytalfigjnaidmnaa", sum := "2c8029566cd1137b68317ee7e6f686d1d70c6115a3268647a1b78ab9ae5e6352", func := "loop.example/g03211/laws.FnExactOrderCosts", spec := "fnExactOrderCosts", apart := false, narrowed := true }
def FnExactOrderCostsUptoSaid : Prop := fnExactOrderCostsUptoRow.holds Try.pinned (OpenSpec.upto fnExactOrderCostsSpec)

/-- 'laws.FnExactReplaceTensor', WHERE WHAT IT READS IS OF BULK AT MOST 1048576: true; the input reads as it did. -/
def fnExactReplaceTensorUptoRow : OpenClaim := { program := "ytalfigjnaidmnaa", sum := "2c8029566cd1137b68317ee7e6f686d1d70c6115a3268647a1b78ab9ae5e6352", func := "loop.example/g03211/laws.FnExactReplaceTensor", spec := "fnExactReplaceTensor", apart := false, narrowed := true }
def FnExactReplaceTensorUptoSaid : Prop := fnExactReplaceTensorUptoRow.holds Try.pinned (OpenSpec.upto fnExactReplaceTensorSpec)

/-- 'laws.FnExactBestOrder', WHERE WHAT IT READS IS OF BULK AT MOST 1048576: true; the input reads as it did. -/
def fnExactBestOrderUptoRow : OpenClaim := { program := "ytalfigjnaidmnaa", sum := "2c8029566cd1137b68317ee7e6f686d1d70c6115a3268647a1b78ab9ae5e6352", func := "loop.example/g03211/laws.FnExactBestOrder", spec := "fnExactBestOrder", recurses := true, apart := false, narrowed := true }
def FnExactBestOrderUptoSaid : Prop := fnExactBestOrderUptoRow.holds Try.pinned (OpenSpec.upto fnExactBestOrderSpec)

/-- 'laws.FnExactJobOk', WHERE WHAT IT READS IS OF BULK AT MOST 1048576: true; the input reads as it did. -/
def fnExactJobOkUptoRow : OpenClaim := { program := "ytalfigjnaidmnaa", sum := "2c8029566cd1137b68317ee7e6f686d1d70c6115a3268647a1b78ab9ae5e6352", func := "loop.example/g03211/laws.FnExactJobOk", spec := "fnExactJobOk", apart := false, narrowed := true }
def FnExactJobOkUptoSaid : Prop := fnExactJobOkUptoRow.holds Try.pinned (OpenSpec.upto fnExactJobOkSpec)

/-- 'laws.FnExactScheduleOk', WHERE WHAT IT READS IS OF BULK AT MOST 1048576: true; the input reads as it did. -/
def fnExactScheduleOkUptoRow : OpenClaim := { program := "ytalfigjnaidmnaa", sum := "2c8029566cd1137b68317ee7e6f686d1d70c6115a3268647a1b78ab9ae5e6352", func := "loop.example/g03211/laws.FnExactScheduleOk", spec := "fnExactScheduleOk", apart := false, narrowed := true }
def FnExactScheduleOkUptoSaid : Prop := fnExactScheduleOkUptoRow.holds Try.pinned (OpenSpec.upto fnExactScheduleOkSpec)

/-- 'laws.FnExactCompleteOrder', WHERE WHAT IT READS IS OF BULK AT MOST 1048576: true; the input reads as it did. -/
def fnExactCompleteOrderUptoRow : OpenClaim := { program := "ytalfigjnaidmnaa", sum := "2c8029566cd1137b68317ee7e6f686d1d70c6115a3268647a1b78ab9ae5e6352", func := "loop.example/g03211/laws.FnExactCompleteOrder", spec := "fnExactCompleteOrder", apart := false, narrowed := true }
def FnExactCompleteOrderUptoSaid : Prop := fnExactCompleteOrderUptoRow.holds Try.pinned (OpenSpec.upto fnExactCompleteOrderSpec)

/-- 'laws.FnExactMapNetwork', WHERE WHAT IT READS IS OF BULK AT MOST 1048576: true; the input reads as it did. -/
def fnExactMapNetworkUptoRow : OpenClaim := { program := "ytalfigjnaidmnaa", sum := "2c8029566cd1137b68317ee7e6f686d1d70c6115a3268647a1b78ab9ae5e6352", func := "loop.example/g03211/laws.FnExactMapNetwork", spec := "fnExactMapNetwork", apart := false, narrowed := true }
def FnExactMapNetworkUptoSaid : Prop := fnExactMapNetworkUptoRow.holds Try.pinned (OpenSpec.upto fnExactMapNetworkSpec)

end Rows
end Go.Proofs.Ytalfigjnaidmnaa
