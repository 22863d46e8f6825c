/-
  No cell of these rows narrows 'for every input' (looked for: loops, veiled, ifaces, maps, wideKeys, modest, calm, conditions, laid).
  DERIVED. THE GIVEN ROWS OF THIS SEAT. 3 by the template 'for every input the law returns true; each argument reads behind the call as it read before'; 0 by the template 'total and deterministic' (their statements: YthlmjnihihbckaaTotals.lean).
  GIVEN WITH THE SEED: the statements are not yours to turn. If you find one false, say at which input.
  Laid BY PROGRAM, IN A SANDBOX (cutbox-rows.mjs): the forced cells as the released guide's own fill.sh prints them over the translation b7f1e5c30e306004… (all of the seat's roots in one cut). By AI agents, Wed Nov 11 2026. No macro, syntax, notation, axiom, sorry.
-/
import Derived.Test.YthlmjnihihbckaaChecked
import GoSem.Claim
import GoSem.ClaimJoined
import GoSem.ClaimMapViews
import Derived.JoinedTies
import Derived.KernelRfl
namespace Go.Proofs.Ythlmjnihihbckaa
/- THE CELL 'sum', in the pinned program and in every row, IS THE sha256 OF THE DUMP (.gsa) THAT YthlmjnihihbckaaProg.lean LOADS. Nothing in Lean hashes anything: it is a label: what it is worth is what the hold of that sum in a sandbox is worth. -/
noncomputable def Try.pinned : Pinned := { name := "ythlmjnihihbckaa", sum := "b7f1e5c30e306004f02f49361ad569bd5678613932bb3c09e5c2d4428a05301a", checked := Try.checked }
namespace Rows
def none {H : Type} : Left H := { results := [], args := [] }

/-- 'laws.FnExactCompileOrder': WHATEVER THE INPUT: true; the input reads as it did. -/
def fnExactCompileOrderSpec : ChangeSpec := { name := "fnExactCompileOrder", fn := fun _ => fun
  | [d1, d2] => { results := [.lit (.bool true)], args := [d1, d2] }
  | _ => none }
def fnExactCompileOrderRow : OpenClaim := { program := "ythlmjnihihbckaa", sum := "b7f1e5c30e306004f02f49361ad569bd5678613932bb3c09e5c2d4428a05301a", func := "loop.example/g03211/laws.FnExactCompileOrder", spec := "fnExactCompileOrder", unfollowed := true, recurses := true, apart := false }
def FnExactCompileOrderSaid : Prop := fnExactCompileOrderRow.holds Try.pinned (OpenSpec.ofChange fnExactCompileOrderSpec)

/-- ITS FALSE NEIGHBOUR: 'it returns false'. Refute it at one input. -/
def fnExactCompileOrderWrong : ChangeSpec := { name := "fnExactCompileOrder", fn := fun _ => fun
  | [d1, d2] => { results := [.lit (.bool false)], args := [d1, d2] }
  | _ => none }
def FnExactCompileOrderWrongFalsely : Prop := fnExactCompileOrderRow.holds Try.pinned (OpenSpec.ofChange fnExactCompileOrderWrong)

/-- 'laws.FnExactForestMarginals': WHATEVER THE INPUT: true; the input reads as it did. -/
def fnExactForestMarginalsSpec : ChangeSpec := { name := "fnExactForestMarginals", fn := fun _ => fun
  | [d] => { results := [.lit (.bool true)], args := [d] }
  | _ => none }
def fnExactForestMarginalsRow : OpenClaim := { program := "ythlmjnihihbckaa", sum := "b7f1e5c30e306004f02f49361ad569bd5678613932bb3c09e5c2d4428a05301a", func := "loop.example/g03211/laws.FnExactForestMarginals", spec := "fnExactForestMarginals", recurses := true, apart := false }
def FnExactForestMarginalsSaid : Prop := fnExactForestMarginalsRow.holds Try.pinned (OpenSpec.ofChange fnExactForestMarginalsSpec)

/-- ITS FALSE NEIGHBOUR: 'it returns false'. Refute it at one input. -/
def fnExactForestMarginalsWrong : ChangeSpec := { name := "fnExactForestMarginals", fn := fun _ => fun
  | [d] => { results := [.lit (.bool false)], args := [d] }
  | _ => none }
def FnExactForestMarginalsWrongFalsely : Prop := fnExactForestMarginalsRow.holds Try.pinned (OpenSpec.ofChange fnExactForestMarginalsWrong)

/-- 'laws.FnExactDecompositionOf': WHATEVER THE INPUT: true; the input reads as it did. -/
def fnExactDecompositionOfSpec : ChangeSpec := { name := "fnExactDecompositionOf", fn := fun _ => fun
  | [d1, d2] => { results := [.lit (.bool true)], args := [d1, d2] }
  | _ => none }
def fnExactDecompositionOfRow : OpenClaim := { program := "ythlmjnihihbckaa", sum := "b7f1e5c30e306004f02f49361ad569bd5678613932bb3c09e5c2d4428a05301a", func := "loop.example/g03211/laws.FnExactDecompositionOf", spec := "fnExactDecompositionOf", recurses := true, apart := false }
def FnExactDecompositionOfSaid : Prop := fnExactDecompositionOfRow.holds Try.pinned (OpenSpec.ofChange fnExactDecompositionOfSpec)

/-- ITS FALSE NEIGHBOUR: 'it returns false'. Refute it at one input. -/
def fnExactDecompositionOfWrong : ChangeSpec := { name := "fnExactDecompositionOf", fn := fun _ => fun
  | [d1, d2] => { results := [.lit (.bool false)], args := [d1, d2] }
  | _ => none }
def FnExactDecompositionOfWrongFalsely : Prop := fnExactDecompositionOfRow.holds Try.pinned (OpenSpec.ofChange fnExactDecompositionOfWrong)

/- THE SECOND FORM. 'bulk': how many values and letters a reading holds, each counted each time it is reached (what is shared counts as often as it is met; a slice's spare places count too). A statement '..UptoSaid' is the law's where the arguments, and the package variables that the reading takes, are together of bulk at most 1048576: NARROWER than '..Said'. Prove '..Said' where nothing that the law and all that it calls make is longer than what came in: it says more and counts as full. Else prove '..UptoSaid'. A law counts once. -/
mutual
def uptoBulk {H : Type} : DataW H → Nat
  | .lit (.string bytes) => bytes.length + 1
  | .lit _ => 1
  | .nil => 1
  | .ptr d => uptoBulk d + 1
  | .slice elems spare => uptoBulkAll elems + uptoBulkAll spare + 1
  | .agg parts => uptoBulkAll parts + 1
  | .iface _ d => uptoBulk d + 1
  | .map entries => uptoBulkEntries entries + 1
  | .held _ => 1
def uptoBulkAll {H : Type} : List (DataW H) → Nat
  | [] => 0
  | d :: r => uptoBulk d + uptoBulkAll r
def uptoBulkEntries {H : Type} : List (Lit × DataW H) → Nat
  | [] => 0
  | x :: r => uptoBulkEntry x + uptoBulkEntries r
def uptoBulkEntry {H : Type} : Lit × DataW H → Nat
  | (.string bytes, d) => bytes.length + uptoBulk d + 1
  | (_, d) => uptoBulk d + 1
 end
def uptoSmall : (H : Type) → List (DataW H) → Bool := fun _ ds => decide (uptoBulkAll ds ≤ 1048576)
def OpenSpec.upto (s : _root_.Go.ChangeSpec) : _root_.Go.OpenSpec := { _root_.Go.OpenSpec.ofChange s with cond := some uptoSmall }

/-- 'laws.FnExactCompileOrder', WHERE WHAT IT READS IS OF BULK AT MOST 1048576: true; the input reads as it did. -/
def fnExactCompileOrderUptoRow : OpenClaim := { program := "ythlmjnihihbckaa", sum := "b7f1e5c30e306004f02f49361ad569bd5678613932bb3c09e5c2d4428a05301a", func := "loop.example/g03211/laws.FnExactCompileOrder", spec := "fnExactCompileOrder", unfollowed := true, recurses := true, apart := false, narrowed := true }
def FnExactCompileOrderUptoSaid : Prop := fnExactCompileOrderUptoRow.holds Try.pinned (OpenSpec.upto fnExactCompileOrderSpec)

/-- 'laws.FnExactForestMarginals', WHERE WHAT IT READS IS OF BULK AT MOST 1048576: true; the input reads as it did. -/
def fnExactForestMarginalsUptoRow : OpenClaim := { program := "ythlmjnihihbckaa", sum := "b7f1e5c30e306004f02f49361ad569bd5678613932bb3c09e5c2d4428a05301a", func := "loop.example/g03211/laws.FnExactForestMarginals", spec := "fnExactForestMarginals", recurses := true, apart := false, narrowed := true }
def FnExactForestMarginalsUptoSaid : Prop := fnExactForestMarginalsUptoRow.holds Try.pinned (OpenSpec.upto fnExactForestMarginalsSpec)

/-- 'laws.FnExactDecompositionOf', WHERE WHAT IT READS IS OF BULK AT MOST 1048576: true; the input reads as it did. -/
def fnExactDecompositionOfUptoRow : OpenClaim := { program := "ythlmjnihihbckaa", sum := "b7f1e5c30e306004f02f49361ad569bd5678613932bb3c09e5c2d4428a05301a", func := "loop.example/g03211/laws.FnExactDecompositionOf", spec := "fnExactDecompositionOf", recurses := true, apart := false, narrowed := true }
def FnExactDecompositionOfUptoSaid : Prop := fnExactDecompositionOfUptoRow.holds Try.pinned (OpenSpec.upto fnExactDecompositionOfSpec)

end Rows
end Go.Proofs.Ythlmjnihihbckaa
