/-
  No cell of these rows narrows 'for every input' (looked for: loops, veiled, ifaces, maps, wideKeys, modest, calm, conditions, laid).
  DERIVED. THE GIVEN ROWS OF THIS SEAT. 3 by the template 'for every input the law returns true; each argument reads behind the call as it read before'; 0 by the template 'total and deterministic' (their statements: YthfohlhdefoopaaTotals.lean).
  GIVEN WITH THE SEED: the statements are not yours to turn. If you find one false, say at which input.
  Laid BY PROGRAM, IN A SANDBOX (cutbox-rows.mjs): the forced cells as the released guide's own fill.sh prints them over the translation 6283c96602cd5250… (all of the seat's roots in one cut). By AI agents, Wed Nov 11 2026. No macro, syntax, notation, axiom, sorry.
-/
import Derived.Test.YthfohlhdefoopaaChecked
import GoSem.Claim
import GoSem.ClaimJoined
import GoSem.ClaimMapViews
import Derived.JoinedTies
import Derived.KernelRfl
namespace Go.Proofs.Ythfohlhdefoopaa
/- THE CELL 'sum', in the pinned program and in every row, IS THE sha256 OF THE DUMP (.gsa) THAT YthfohlhdefoopaaProg.lean LOADS. Nothing in Lean hashes anything: it is a label: what it is worth is what the hold of that sum in a sandbox is worth. -/
noncomputable def Try.pinned : Pinned := { name := "ythfohlhdefoopaa", sum := "6283c96602cd52502924c2e0f4836a24067aab962ec566e9c60848e2893282f3", checked := Try.checked }
namespace Rows
def none {H : Type} : Left H := { results := [], args := [] }

/-- 'laws.FnExactInverseOf': WHATEVER THE INPUT: true; the input reads as it did. -/
def fnExactInverseOfSpec : ChangeSpec := { name := "fnExactInverseOf", fn := fun _ => fun
  | [d1, d2] => { results := [.lit (.bool true)], args := [d1, d2] }
  | _ => none }
def fnExactInverseOfRow : OpenClaim := { program := "ythfohlhdefoopaa", sum := "6283c96602cd52502924c2e0f4836a24067aab962ec566e9c60848e2893282f3", func := "loop.example/g03211/laws.FnExactInverseOf", spec := "fnExactInverseOf", apart := false }
def FnExactInverseOfSaid : Prop := fnExactInverseOfRow.holds Try.pinned (OpenSpec.ofChange fnExactInverseOfSpec)

/-- ITS FALSE NEIGHBOUR: 'it returns false'. Refute it at one input. -/
def fnExactInverseOfWrong : ChangeSpec := { name := "fnExactInverseOf", fn := fun _ => fun
  | [d1, d2] => { results := [.lit (.bool false)], args := [d1, d2] }
  | _ => none }
def FnExactInverseOfWrongFalsely : Prop := fnExactInverseOfRow.holds Try.pinned (OpenSpec.ofChange fnExactInverseOfWrong)

/-- 'laws.FnExactIsSelective': WHATEVER THE INPUT: true; the input reads as it did. -/
def fnExactIsSelectiveSpec : ChangeSpec := { name := "fnExactIsSelective", fn := fun _ => fun
  | [d] => { results := [.lit (.bool true)], args := [d] }
  | _ => none }
def fnExactIsSelectiveRow : OpenClaim := { program := "ythfohlhdefoopaa", sum := "6283c96602cd52502924c2e0f4836a24067aab962ec566e9c60848e2893282f3", func := "loop.example/g03211/laws.FnExactIsSelective", spec := "fnExactIsSelective", apart := false }
def FnExactIsSelectiveSaid : Prop := fnExactIsSelectiveRow.holds Try.pinned (OpenSpec.ofChange fnExactIsSelectiveSpec)

/-- ITS FALSE NEIGHBOUR: 'it returns false'. Refute it at one input. -/
def fnExactIsSelectiveWrong : ChangeSpec := { name := "fnExactIsSelective", fn := fun _ => fun
  | [d] => { results := [.lit (.bool false)], args := [d] }
  | _ => none }
def FnExactIsSelectiveWrongFalsely : Prop := fnExactIsSelectiveRow.holds Try.pinned (OpenSpec.ofChange fnExactIsSelectiveWrong)

/-- 'laws.FnExactMatrixOk': WHATEVER THE INPUT: true; the input reads as it did. -/
def fnExactMatrixOkSpec : ChangeSpec := { name := "fnExactMatrixOk", fn := fun _ => fun
  | [d1, d2] => { results := [.lit (.bool true)], args := [d1, d2] }
  | _ => none }
def fnExactMatrixOkRow : OpenClaim := { program := "ythfohlhdefoopaa", sum := "6283c96602cd52502924c2e0f4836a24067aab962ec566e9c60848e2893282f3", func := "loop.example/g03211/laws.FnExactMatrixOk", spec := "fnExactMatrixOk", apart := false }
def FnExactMatrixOkSaid : Prop := fnExactMatrixOkRow.holds Try.pinned (OpenSpec.ofChange fnExactMatrixOkSpec)

/-- ITS FALSE NEIGHBOUR: 'it returns false'. Refute it at one input. -/
def fnExactMatrixOkWrong : ChangeSpec := { name := "fnExactMatrixOk", fn := fun _ => fun
  | [d1, d2] => { results := [.lit (.bool false)], args := [d1, d2] }
  | _ => none }
def FnExactMatrixOkWrongFalsely : Prop := fnExactMatrixOkRow.holds Try.pinned (OpenSpec.ofChange fnExactMatrixOkWrong)

/- THE SECOND FORM. 'bulk': how many values and letters a reading holds, each counted each time it is reached (what is shared counts as often as it is met; a slice's spare places count too). A statement '..UptoSaid' is the law's where the arguments, and the package variables that the reading takes, are together of bulk at most 1048576: NARROWER than '..Said'. Prove '..Said' where nothing that the law and all that it calls make is longer than what came in: it says more and counts as full. Else prove '..UptoSaid'. A law counts once. -/
mutual
def uptoBulk {H : Type} : DataW H → Nat
  | .lit (.string bytes) => bytes.length + 1
  | .lit _ => 1
  | .nil => 1
  | .ptr d => uptoBulk d + 1
  | .slice elems spare => uptoBulkAll elems + uptoBulkAll spare + 1
  | .agg parts => uptoBulkAll parts + 1
  | .iface _ d => uptoBulk d + 1
  | .map entries => uptoBulkEntries entries + 1
  | .held _ => 1
def uptoBulkAll {H : Type} : List (DataW H) → Nat
  | [] => 0
  | d :: r => uptoBulk d + uptoBulkAll r
def uptoBulkEntries {H : Type} : List (Lit × DataW H) → Nat
  | [] => 0
  | x :: r => uptoBulkEntry x + uptoBulkEntries r
def uptoBulkEntry {H : Type} : Lit × DataW H → Nat
  | (.string bytes, d) => bytes.length + uptoBulk d + 1
  | (_, d) => uptoBulk d + 1
 end
def uptoSmall : (H : Type) → List (DataW H) → Bool := fun _ ds => decide (uptoBulkAll ds ≤ 1048576)
def OpenSpec.upto (s : _root_.Go.ChangeSpec) : _root_.Go.OpenSpec := { _root_.Go.OpenSpec.ofChange s with cond := some uptoSmall }

/-- 'laws.FnExactInverseOf', WHERE WHAT IT READS IS OF BULK AT MOST 1048576: true; the input reads as it did. -/
def fnExactInverseOfUptoRow : OpenClaim := { program := "ythfohlhdefoopaa", sum := "6283c96602cd52502924c2e0f4836a24067aab962ec566e9c60848e2893282f3", func := "loop.example/g03211/laws.FnExactInverseOf", spec := "fnExactInverseOf", apart := false, narrowed := true }
def FnExactInverseOfUptoSaid : Prop := fnExactInverseOfUptoRow.holds Try.pinned (OpenSpec.upto fnExactInverseOfSpec)

/-- 'laws.FnExactIsSelective', WHERE WHAT IT READS IS OF BULK AT MOST 1048576: true; the input reads as it did. -/
def fnExactIsSelectiveUptoRow : OpenClaim := { program := "ythfohlhdefoopaa", sum := "6283c96602cd52502924c2e0f4836a24067aab962ec566e9c60848e2893282f3", func := "loop.example/g03211/laws.FnExactIsSelective", spec := "fnExactIsSelective", apart := false, narrowed := true }
def FnExactIsSelectiveUptoSaid : Prop := fnExactIsSelectiveUptoRow.holds Try.pinned (OpenSpec.upto fnExactIsSelectiveSpec)

/-- 'laws.FnExactMatrixOk', WHERE WHAT IT READS IS OF BULK AT MOST 1048576: true; the input reads as it did. -/
def fnExactMatrixOkUptoRow : OpenClaim := { program := "ythfohlhdefoopaa", sum := "6283c96602cd52502924c2e0f4836a24067aab962ec566e9c60848e2893282f3", func := "loop.example/g03211/laws.FnExactMatrixOk", spec := "fnExactMatrixOk", apart := false, narrowed := true }
def FnExactMatrixOkUptoSaid : Prop := fnExactMatrixOkUptoRow.holds Try.pinned (OpenSpec.upto fnExactMatrixOkSpec)

end Rows
end Go.Proofs.Ythfohlhdefoopaa
