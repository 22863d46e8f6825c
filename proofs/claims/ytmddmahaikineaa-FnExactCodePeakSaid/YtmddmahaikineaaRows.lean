/-
  No cell of these rows narrows 'for every input' (looked for: loops, veiled, ifaces, maps, wideKeys, modest, calm, conditions, laid).
  DERIVED. THE GIVEN ROWS OF THIS SEAT. 6 by the template 'for every input the law returns true; each argument reads behind the call as it read before'; 0 by the template 'total and deterministic' (their statements: YtmddmahaikineaaTotals.lean).
  GIVEN WITH THE SEED: the statements are not yours to turn. If you find one false, say at which input.
  Laid BY PROGRAM, IN A SANDBOX (cutbox-rows.mjs): the forced cells as the released guide's own fill.sh prints them over the translation 8d282c7c5437d0cf… (all of the seat's roots in one cut). By AI agents, Wed Nov 11 2026. No macro, syntax, notation, axiom, sorry.
-/
import Derived.Test.YtmddmahaikineaaChecked
import GoSem.Claim
import GoSem.ClaimJoined
import GoSem.ClaimMapViews
import Derived.JoinedTies
import Derived.KernelRfl
namespace Go.Proofs.Ytmddmahaikineaa
/- THE CELL 'sum', in the pinned program and in every row, IS THE sha256 OF THE DUMP (.gsa) THAT YtmddmahaikineaaProg.lean LOADS. Nothing in Lean hashes anything: it is a label: what it is worth is what the hold of that sum in a sandbox is worth. -/
noncomputable def Try.pinned : Pinned := { name := "ytmddmahaikineaa", sum := "8d282c7c5437d0cf228cc4398ea5491c9c8047de356548f324179aa6ace4fbf5", checked := Try.checked }
namespace Rows
def none {H : Type} : Left H := { results := [], args := [] }

/-- 'laws.FnExactBestOrder': WHATEVER THE INPUT: true; the input reads as it did. -/
def fnExactBestOrderSpec : ChangeSpec := { name := "fnExactBestOrder", fn := fun _ => fun
  | [d] => { results := [.lit (.bool true)], args := [d] }
  | _ => none }
def fnExactBestOrderRow : OpenClaim := { program := "ytmddmahaikineaa", sum := "8d282c7c5437d0cf228cc4398ea5491c9c8047de356548f324179aa6ace4fbf5", func := "loop.example/g03211/laws.FnExactBestOrder", spec := "fnExactBestOrder", recurses := true, apart := false }
def FnExactBestOrderSaid : Prop := fnExactBestOrderRow.holds Try.pinned (OpenSpec.ofChange fnExactBestOrderSpec)

/-- ITS FALSE NEIGHBOUR: 'it returns false'. Refute it at one input. -/
def fnExactBestOrderWrong : ChangeSpec := { name := "fnExactBestOrder", fn := fun _ => fun
  | [d] => { results := [.lit (.bool false)], args := [d] }
  | _ => none }
def FnExactBestOrderWrongFalsely : Prop := fnExactBestOrderRow.holds Try.pinned (OpenSpec.ofChange fnExactBestOrderWrong)

/-- 'laws.FnExactCodeOk': WHATEVER THE INPUT: true; the input reads as it did. -/
def fnExactCodeOkSpec : ChangeSpec := { name := "fnExactCodeOk", fn := fun _ => fun
  | [d1, d2] => { results := [.lit (.bool true)], args := [d1, d2] }
  | _ => none }
def fnExactCodeOkRow : OpenClaim := { program := "ytmddmahaikineaa", sum := "8d282c7c5437d0cf228cc4398ea5491c9c8047de356548f324179aa6ace4fbf5", func := "loop.example/g03211/laws.FnExactCodeOk", spec := "fnExactCodeOk", apart := false }
def FnExactCodeOkSaid : Prop := fnExactCodeOkRow.holds Try.pinned (OpenSpec.ofChange fnExactCodeOkSpec)

/-- ITS FALSE NEIGHBOUR: 'it returns false'. Refute it at one input. -/
def fnExactCodeOkWrong : ChangeSpec := { name := "fnExactCodeOk", fn := fun _ => fun
  | [d1, d2] => { results := [.lit (.bool false)], args := [d1, d2] }
  | _ => none }
def FnExactCodeOkWrongFalsely : Prop := fnExactCodeOkRow.holds Try.pinned (OpenSpec.ofChange fnExactCodeOkWrong)

/-- 'laws.FnExactCodePeak': WHATEVER THE INPUT: true; the input reads as it did. -/
def fnExactCodePeakSpec : ChangeSpec := { name := "fnExactCodePeak", fn := fun _ => fun
  | [d1, d2] => { results := [.lit (.bool true)], args := [d1, d2] }
  | _ => none }
def fnExactCodePeakRow : OpenClaim := { program := "ytmddmahaikineaa", sum := "8d282c7c5437d0cf228cc4398ea5491c9c8047de356548f324179aa6ace4fbf5", func := "loop.example/g03211/laws.FnExactCodePeak", spec := "fnExactCodePeak", unfollowed := true, recurses := true, apart := false }
def FnExactCodePeakSaid : Prop := fnExactCodePeakRow.holds Try.pinned (OpenSpec.ofChange fnExactCodePeakSpec)

/-- ITS FALSE NEIGHBOUR: 'it returns false'. Refute it at one input. -/
def fnExactCodePeakWrong : ChangeSpec := { name := "fnExactCodePeak", fn := fun _ => fun
  | [d1, d2] => { results := [.lit (.bool false)], args := [d1, d2] }
  | _ => none }
def FnExactCodePeakWrongFalsely : Prop := fnExactCodePeakRow.holds Try.pinned (OpenSpec.ofChange fnExactCodePeakWrong)

/-- 'laws.FnExactSlicedPeak': WHATEVER THE INPUT: true; the input reads as it did. -/
def fnExactSlicedPeakSpec : ChangeSpec := { name := "fnExactSlicedPeak", fn := fun _ => fun
  | [d1, d2, d3] => { results := [.lit (.bool true)], args := [d1, d2, d3] }
  | _ => none }
def fnExactSlicedPeakRow : OpenClaim := { program := "ytmddmahaikineaa", sum := "8d282c7c5437d0cf228cc4398ea5491c9c8047de356548f324179aa6ace4fbf5", func := "loop.example/g03211/laws.FnExactSlicedPeak", spec := "fnExactSlicedPeak", apart := false }
def FnExactSlicedPeakSaid : Prop := fnExactSlicedPeakRow.holds Try.pinned (OpenSpec.ofChange fnExactSlicedPeakSpec)

/-- ITS FALSE NEIGHBOUR: 'it returns false'. Refute it at one input. -/
def fnExactSlicedPeakWrong : ChangeSpec := { name := "fnExactSlicedPeak", fn := fun _ => fun
  | [d1, d2, d3] => { results := [.lit (.bool false)], args := [d1, d2, d3] }
  | _ => none }
def FnExactSlicedPeakWrongFalsely : Prop := fnExactSlicedPeakRow.holds Try.pinned (OpenSpec.ofChange fnExactSlicedPeakWrong)

/-- 'laws.FnExactChooseSlices': WHATEVER THE INPUT: true; the input reads as it did. -/
def fnExactChooseSlicesSpec : ChangeSpec := { name := "fnExactChooseSlices", fn := fun _ => fun
  | [d1, d2, d3] => { results := [.lit (.bool true)], args := [d1, d2, d3] }
  | _ => none }
def fnExactChooseSlicesRow : OpenClaim := { program := "ytmddmahaikineaa", sum := "8d282c7c5437d0cf228cc4398ea5491c9c8047de356548f324179aa6ace4fbf5", func := "loop.example/g03211/laws.FnExactChooseSlices", spec := "fnExactChooseSlices", apart := false }
def FnExactChooseSlicesSaid : Prop := fnExactChooseSlicesRow.holds Try.pinned (OpenSpec.ofChange fnExactChooseSlicesSpec)

/-- ITS FALSE NEIGHBOUR: 'it returns false'. Refute it at one input. -/
def fnExactChooseSlicesWrong : ChangeSpec := { name := "fnExactChooseSlices", fn := fun _ => fun
  | [d1, d2, d3] => { results := [.lit (.bool false)], args := [d1, d2, d3] }
  | _ => none }
def FnExactChooseSlicesWrongFalsely : Prop := fnExactChooseSlicesRow.holds Try.pinned (OpenSpec.ofChange fnExactChooseSlicesWrong)

/-- 'laws.FnExactDecompositionOf': WHATEVER THE INPUT: true; the input reads as it did. -/
def fnExactDecompositionOfSpec : ChangeSpec := { name := "fnExactDecompositionOf", fn := fun _ => fun
  | [d1, d2] => { results := [.lit (.bool true)], args := [d1, d2] }
  | _ => none }
def fnExactDecompositionOfRow : OpenClaim := { program := "ytmddmahaikineaa", sum := "8d282c7c5437d0cf228cc4398ea5491c9c8047de356548f324179aa6ace4fbf5", func := "loop.example/g03211/laws.FnExactDecompositionOf", spec := "fnExactDecompositionOf", recurses := true, apart := false }
def FnExactDecompositionOfSaid : Prop := fnExactDecompositionOfRow.holds Try.pinned (OpenSpec.ofChange fnExactDecompositionOfSpec)

/-- ITS FALSE NEIGHBOUR: 'it returns false'. Refute it at one input. -/
def fnExactDecompositionOfWrong : ChangeSpec := { name := "fnExactDecompositionOf", fn := fun _ => fun
  | [d1, d2] => { results := [.lit (.bool false)], args := [d1, d2] }
  | _ => none }
def FnExactDecompositionOfWrongFalsely : Prop := fnExactDecompositionOfRow.holds Try.pinned (OpenSpec.ofChange fnExactDecompositionOfWrong)

/- THE SECOND FORM. 'bulk': how many values and letters a reading holds, each counted each time it is reached (what is shared counts as often as it is met; a slice's spare places count too). A statement '..UptoSaid' is the law's where the arguments, and the package variables that the reading takes, are together of bulk at most 1048576: NARROWER than '..Said'. Prove '..Said' where nothing that the law and all that it calls make is longer than what came in: it says more and counts as full. Else prove '..UptoSaid'. A law counts once. -/
mutual
def uptoBulk {H : Type} : DataW H → Nat
  | .lit (.string bytes) => bytes.length + 1
  | .lit _ => 1
  | .nil => 1
  | .ptr d => uptoBulk d + 1
  | .slice elems spare => uptoBulkAll elems + uptoBulkAll spare + 1
  | .agg parts => uptoBulkAll parts + 1
  | .iface _ d => uptoBulk d + 1
  | .map entries => uptoBulkEntries entries + 1
  | .held _ => 1
def uptoBulkAll {H : Type} : List (DataW H) → Nat
  | [] => 0
  | d :: r => uptoBulk d + uptoBulkAll r
def uptoBulkEntries {H : Type} : List (Lit × DataW H) → Nat
  | [] => 0
  | x :: r => uptoBulkEntry x + uptoBulkEntries r
def uptoBulkEntry {H : Type} : Lit × DataW H → Nat
  | (.string bytes, d) => bytes.length + uptoBulk d + 1
  | (_, d) => uptoBulk d + 1
 end
def uptoSmall : (H : Type) → List (DataW H) → Bool := fun _ ds => decide (uptoBulkAll ds ≤ 1048576)
def OpenSpec.upto (s : _root_.Go.ChangeSpec) : _root_.Go.OpenSpec := { _root_.Go.OpenSpec.ofChange s with cond := some uptoSmall }

/-- 'laws.FnExactBestOrder', WHERE WHAT IT READS IS OF BULK AT MOST 1048576: true; the input reads as it did. -/
def fnExactBestOrderUptoRow : OpenClaim := { program := "ytmddmahaikineaa", sum := "8d282c7c5437d0cf228cc4398ea5491c9c8047de356548f324179aa6ace4fbf5", func := "loop.example/g03211/laws.FnExactBestOrder", spec := "fnExactBestOrder", recurses := true, apart := false, narrowed := true }
def FnExactBestOrderUptoSaid : Prop := fnExactBestOrderUptoRow.holds Try.pinned (OpenSpec.upto fnExactBestOrderSpec)

/-- 'laws.FnExactCodeOk', WHERE WHAT IT READS IS OF BULK AT MOST 1048576: true; the input reads as it did. -/
def fnExactCodeOkUptoRow : OpenClaim := { program := "ytmddmahaikineaa", sum := "8d282c7c5437d0cf228cc4398ea5491c9c8047de356548f324179aa6ace4fbf5", func := "loop.example/g03211/laws.FnExactCodeOk", spec := "fnExactCodeOk", apart := false, narrowed := true }
def FnExactCodeOkUptoSaid : Prop := fnExactCodeOkUptoRow.holds Try.pinned (OpenSpec.upto fnExactCodeOkSpec)

/-- 'laws.FnExactCodePeak', WHERE WHAT IT READS IS OF BULK AT MOST 1048576: true; the input reads as it did. -/
def fnExactCodePeakUptoRow : OpenClaim := { program := "ytmddmahaikineaa", sum := "8d282c7c5437d0cf228cc4398ea5491c9c8047de356548f324179aa6ace4fbf5", func := "loop.example/g03211/laws.FnExactCodePeak", spec := "fnExactCodePeak", unfollowed := true, recurses := true, apart := false, narrowed := true }
def FnExactCodePeakUptoSaid : Prop := fnExactCodePeakUptoRow.holds Try.pinned (OpenSpec.upto fnExactCodePeakSpec)

/-- 'laws.FnExactSlicedPeak', WHERE WHAT IT READS IS OF BULK AT MOST 1048576: true; the input reads as it did. -/
def fnExactSlicedPeakUptoRow : OpenClaim := { program := "ytmddmahaikineaa", sum := "8d282c7c5437d0cf228cc4398ea5491c9c8047de356548f324179aa6ace4fbf5", func := "loop.example/g03211/laws.FnExactSlicedPeak", spec := "fnExactSlicedPeak", apart := false, narrowed := true }
def FnExactSlicedPeakUptoSaid : Prop := fnExactSlicedPeakUptoRow.holds Try.pinned (OpenSpec.upto fnExactSlicedPeakSpec)

/-- 'laws.FnExactChooseSlices', WHERE WHAT IT READS IS OF BULK AT MOST 1048576: true; the input reads as it did. -/
def fnExactChooseSlicesUptoRow : OpenClaim := { program := "ytmddmahaikineaa", sum := "8d282c7c5437d0cf228cc4398ea5491c9c8047de356548f324179aa6ace4fbf5", func := "loop.example/g03211/laws.FnExactChooseSlices", spec := "fnExactChooseSlices", apart := false, narrowed := true }
def FnExactChooseSlicesUptoSaid : Prop := fnExactChooseSlicesUptoRow.holds Try.pinned (OpenSpec.upto fnExactChooseSlicesSpec)

/-- 'laws.FnExactDecompositionOf', WHERE WHAT IT READS IS OF BULK AT MOST 1048576: true; the input reads as it did. -/
def fnExactDecompositionOfUptoRow : OpenClaim := { program := "ytmddmahaikineaa", sum := "8d282c7c5437d0cf228cc4398ea5491c9c8047de356548f324179aa6ace4fbf5", func := "loop.example/g03211/laws.FnExactDecompositionOf", spec := "fnExactDecompositionOf", recurses := true, apart := false, narrowed := true }
def FnExactDecompositionOfUptoSaid : Prop := fnExactDecompositionOfUptoRow.holds Try.pinned (OpenSpec.upto fnExactDecompositionOfSpec)

end Rows
end Go.Proofs.Ytmddmahaikineaa
