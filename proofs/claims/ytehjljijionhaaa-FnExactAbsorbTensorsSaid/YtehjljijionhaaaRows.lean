/-
  No cell of these rows narrows 'for every input' (looked for: loops, veiled, ifaces, maps, wideKeys, modest, calm, conditions, laid).
  DERIVED. THE GIVEN ROWS OF THIS SEAT. 5 by the template 'for every input the law returns true; each argument reads behind the call as it read before'; 0 by the template 'total and deterministic' (their statements: YtehjljijionhaaaTotals.lean).
  GIVEN WITH THE SEED: the statements are not yours to turn. If you find one false, say at which input.
  Laid BY PROGRAM, IN A SANDBOX (cutbox-rows.mjs): the forced cells as the released guide's own fill.sh prints them over the translation 97ecec5d85d2b786… (all of the seat's roots in one cut). By AI agents, Wed Nov 11 2026. No macro, syntax, notation, axiom, sorry.
-/
import Derived.Test.YtehjljijionhaaaChecked
import GoSem.Claim
import GoSem.ClaimJoined
import GoSem.ClaimMapViews
import Derived.JoinedTies
import Derived.KernelRfl
namespace Go.Proofs.Ytehjljijionhaaa
/- THE CELL 'sum', in the pinned program and in every row, IS THE sha256 OF THE DUMP (.gsa) THAT YtehjljijionhaaaProg.lean LOADS. Nothing in Lean hashes anything: it is a label: what it is worth is what the hold of that sum in a sandbox is worth. -/
noncomputable def Try.pinned : Pinned := { name := "ytehjljijionhaaa", sum := "97ecec5d85d2b786af56380991d2ef0e4b6ad74d92653a3b0081aee914c0858e", checked := Try.checked }
namespace Rows
def none {H : Type} : Left H := { results := [], args := [] }

/-- 'laws.FnExactMergeTensors': WHATEVER THE INPUT: true; the input reads as it did. -/
def fnExactMergeTensorsSpec : ChangeSpec := { name := "fnExactMergeTensors", fn := fun _ => fun
  | [d1, d2, d3] => { results := [.lit (.bool true)], args := [d1, d2, d3] }
  | _ => none }
def fnExactMergeTensorsRow : OpenClaim := { program := "ytehjljijionhaaa", sum := "97ecec5d85d2b786af56380991d2ef0e4b6ad74d92653a3b0081aee914c0858e", func := "loop.example/g03211/laws.FnExactMergeTensors", spec := "fnExactMergeTensors", apart := false }
def FnExactMergeTensorsSaid : Prop := fnExactMergeTensorsRow.holds Try.pinned (OpenSpec.ofChange fnExactMergeTensorsSpec)

/-- ITS FALSE NEIGHBOUR: 'it returns false'. Refute it at one input. -/
def fnExactMergeTensorsWrong : ChangeSpec := { name := "fnExactMergeTensors", fn := fun _ => fun
  | [d1, d2, d3] => { results := [.lit (.bool false)], args := [d1, d2, d3] }
  | _ => none }
def FnExactMergeTensorsWrongFalsely : Prop := fnExactMergeTensorsRow.holds Try.pinned (OpenSpec.ofChange fnExactMergeTensorsWrong)

/-- 'laws.FnExactSumPrivate': WHATEVER THE INPUT: true; the input reads as it did. -/
def fnExactSumPrivateSpec : ChangeSpec := { name := "fnExactSumPrivate", fn := fun _ => fun
  | [d] => { results := [.lit (.bool true)], args := [d] }
  | _ => none }
def fnExactSumPrivateRow : OpenClaim := { program := "ytehjljijionhaaa", sum := "97ecec5d85d2b786af56380991d2ef0e4b6ad74d92653a3b0081aee914c0858e", func := "loop.example/g03211/laws.FnExactSumPrivate", spec := "fnExactSumPrivate", apart := false }
def FnExactSumPrivateSaid : Prop := fnExactSumPrivateRow.holds Try.pinned (OpenSpec.ofChange fnExactSumPrivateSpec)

/-- ITS FALSE NEIGHBOUR: 'it returns false'. Refute it at one input. -/
def fnExactSumPrivateWrong : ChangeSpec := { name := "fnExactSumPrivate", fn := fun _ => fun
  | [d] => { results := [.lit (.bool false)], args := [d] }
  | _ => none }
def FnExactSumPrivateWrongFalsely : Prop := fnExactSumPrivateRow.holds Try.pinned (OpenSpec.ofChange fnExactSumPrivateWrong)

/-- 'laws.FnExactFinishTensor': WHATEVER THE INPUT: true; the input reads as it did. -/
def fnExactFinishTensorSpec : ChangeSpec := { name := "fnExactFinishTensor", fn := fun _ => fun
  | [d1, d2] => { results := [.lit (.bool true)], args := [d1, d2] }
  | _ => none }
def fnExactFinishTensorRow : OpenClaim := { program := "ytehjljijionhaaa", sum := "97ecec5d85d2b786af56380991d2ef0e4b6ad74d92653a3b0081aee914c0858e", func := "loop.example/g03211/laws.FnExactFinishTensor", spec := "fnExactFinishTensor", apart := false }
def FnExactFinishTensorSaid : Prop := fnExactFinishTensorRow.holds Try.pinned (OpenSpec.ofChange fnExactFinishTensorSpec)

/-- ITS FALSE NEIGHBOUR: 'it returns false'. Refute it at one input. -/
def fnExactFinishTensorWrong : ChangeSpec := { name := "fnExactFinishTensor", fn := fun _ => fun
  | [d1, d2] => { results := [.lit (.bool false)], args := [d1, d2] }
  | _ => none }
def FnExactFinishTensorWrongFalsely : Prop := fnExactFinishTensorRow.holds Try.pinned (OpenSpec.ofChange fnExactFinishTensorWrong)

/-- 'laws.FnExactAbsorbTensors': WHATEVER THE INPUT: true; the input reads as it did. -/
def fnExactAbsorbTensorsSpec : ChangeSpec := { name := "fnExactAbsorbTensors", fn := fun _ => fun
  | [d] => { results := [.lit (.bool true)], args := [d] }
  | _ => none }
def fnExactAbsorbTensorsRow : OpenClaim := { program := "ytehjljijionhaaa", sum := "97ecec5d85d2b786af56380991d2ef0e4b6ad74d92653a3b0081aee914c0858e", func := "loop.example/g03211/laws.FnExactAbsorbTensors", spec := "fnExactAbsorbTensors", apart := false }
def FnExactAbsorbTensorsSaid : Prop := fnExactAbsorbTensorsRow.holds Try.pinned (OpenSpec.ofChange fnExactAbsorbTensorsSpec)

/-- ITS FALSE NEIGHBOUR: 'it returns false'. Refute it at one input. -/
def fnExactAbsorbTensorsWrong : ChangeSpec := { name := "fnExactAbsorbTensors", fn := fun _ => fun
  | [d] => { results := [.lit (.bool false)], args := [d] }
  | _ => none }
def FnExactAbsorbTensorsWrongFalsely : Prop := fnExactAbsorbTensorsRow.holds Try.pinned (OpenSpec.ofChange fnExactAbsorbTensorsWrong)

/-- 'laws.FnExactPartialNetwork': WHATEVER THE INPUT: true; the input reads as it did. -/
def fnExactPartialNetworkSpec : ChangeSpec := { name := "fnExactPartialNetwork", fn := fun _ => fun
  | [d1, d2, d3] => { results := [.lit (.bool true)], args := [d1, d2, d3] }
  | _ => none }
def fnExactPartialNetworkRow : OpenClaim := { program := "ytehjljijionhaaa", sum := "97ecec5d85d2b786af56380991d2ef0e4b6ad74d92653a3b0081aee914c0858e", func := "loop.example/g03211/laws.FnExactPartialNetwork", spec := "fnExactPartialNetwork", apart := false }
def FnExactPartialNetworkSaid : Prop := fnExactPartialNetworkRow.holds Try.pinned (OpenSpec.ofChange fnExactPartialNetworkSpec)

/-- ITS FALSE NEIGHBOUR: 'it returns false'. Refute it at one input. -/
def fnExactPartialNetworkWrong : ChangeSpec := { name := "fnExactPartialNetwork", fn := fun _ => fun
  | [d1, d2, d3] => { results := [.lit (.bool false)], args := [d1, d2, d3] }
  | _ => none }
def FnExactPartialNetworkWrongFalsely : Prop := fnExactPartialNetworkRow.holds Try.pinned (OpenSpec.ofChange fnExactPartialNetworkWrong)

/- THE SECOND FORM. 'bulk': how many values and letters a reading holds, each counted each time it is reached (what is shared counts as often as it is met; a slice's spare places count too). A statement '..UptoSaid' is the law's where the arguments, and the package variables that the reading takes, are together of bulk at most 1048576: NARROWER than '..Said'. Prove '..Said' where nothing that the law and all that it calls make is longer than what came in: it says more and counts as full. Else prove '..UptoSaid'. A law counts once. -/
mutual
def uptoBulk {H : Type} : DataW H → Nat
  | .lit (.string bytes) => bytes.length + 1
  | .lit _ => 1
  | .nil => 1
  | .ptr d => uptoBulk d + 1
  | .slice elems spare => uptoBulkAll elems + uptoBulkAll spare + 1
  | .agg parts => uptoBulkAll parts + 1
  | .iface _ d => uptoBulk d + 1
  | .map entries => uptoBulkEntries entries + 1
  | .held _ => 1
def uptoBulkAll {H : Type} : List (DataW H) → Nat
  | [] => 0
  | d :: r => uptoBulk d + uptoBulkAll r
def uptoBulkEntries {H : Type} : List (Lit × DataW H) → Nat
  | [] => 0
  | x :: r => uptoBulkEntry x + uptoBulkEntries r
def uptoBulkEntry {H : Type} : Lit × DataW H → Nat
  | (.string bytes, d) => bytes.length + uptoBulk d + 1
  | (_, d) => uptoBulk d + 1
 end
def uptoSmall : (H : Type) → List (DataW H) → Bool := fun _ ds => decide (uptoBulkAll ds ≤ 1048576)
def OpenSpec.upto (s : _root_.Go.ChangeSpec) : _root_.Go.OpenSpec := { _root_.Go.OpenSpec.ofChange s with cond := some uptoSmall }

/-- 'laws.FnExactMergeTensors', WHERE WHAT IT READS IS OF BULK AT MOST 1048576: true; the input reads as it did. -/
def fnExactMergeTensorsUptoRow : OpenClaim := { program := "ytehjljijionhaaa", sum := "97ecec5d85d2b786af56380991d2ef0e4b6ad74d92653a3b0081aee914c0858e", func := "loop.example/g03211/laws.FnExactMergeTensors", spec := "fnExactMergeTensors", apart := false, narrowed := true }
def FnExactMergeTensorsUptoSaid : Prop := fnExactMergeTensorsUptoRow.holds Try.pinned (OpenSpec.upto fnExactMergeTensorsSpec)

/-- 'laws.FnExactSumPrivate', WHERE WHAT IT READS IS OF BULK AT MOST 1048576: true; the input reads as it did. -/
def fnExactSumPrivateUptoRow : OpenClaim := { program := "ytehjljijionhaaa", sum := "97ecec5d85d2b786af56380991d2ef0e4b6ad74d92653a3b0081aee914c0858e", func := "loop.example/g03211/laws.FnExactSumPrivate", spec := "fnExactSumPrivate", apart := false, narrowed := true }
def FnExactSumPrivateUptoSaid : Prop := fnExactSumPrivateUptoRow.holds Try.pinned (OpenSpec.upto fnExactSumPrivateSpec)

/-- 'laws.FnExactFinishTensor', WHERE WHAT IT READS IS OF BULK AT MOST 1048576: true; the input reads as it did. -/
def fnExactFinishTensorUptoRow : OpenClaim := { program := "ytehjljijionhaaa", sum := "97ecec5d85d2b786af56380991d2ef0e4b6ad74d92653a3b0081aee914c0858e", func := "loop.example/g03211/laws.FnExactFinishTensor", spec := "fnExactFinishTensor", apart := false, narrowed := true }
def FnExactFinishTensorUptoSaid : Prop := fnExactFinishTensorUptoRow.holds Try.pinned (OpenSpec.upto fnExactFinishTensorSpec)

/-- 'laws.FnExactAbsorbTensors', WHERE WHAT IT READS IS OF BULK AT MOST 1048576: true; the input reads as it did. -/
def fnExactAbsorbTensorsUptoRow : OpenClaim := { program := "ytehjljijionhaaa", sum := "97ecec5d85d2b786af56380991d2ef0e4b6ad74d92653a3b0081aee914c0858e", func := "loop.example/g03211/laws.FnExactAbsorbTensors", spec := "fnExactAbsorbTensors", apart := false, narrowed := true }
def FnExactAbsorbTensorsUptoSaid : Prop := fnExactAbsorbTensorsUptoRow.holds Try.pinned (OpenSpec.upto fnExactAbsorbTensorsSpec)

/-- 'laws.FnExactPartialNetwork', WHERE WHAT IT READS IS OF BULK AT MOST 1048576: true; the input reads as it did. -/
def fnExactPartialNetworkUptoRow : OpenClaim := { program := "ytehjljijionhaaa", sum := "97ecec5d85d2b786af56380991d2ef0e4b6ad74d92653a3b0081aee914c0858e", func := "loop.example/g03211/laws.FnExactPartialNetwork", spec := "fnExactPartialNetwork", apart := false, narrowed := true }
def FnExactPartialNetworkUptoSaid : Prop := fnExactPartialNetworkUptoRow.holds Try.pinned (OpenSpec.upto fnExactPartialNetworkSpec)

end Rows
end Go.Proofs.Ytehjljijionhaaa
