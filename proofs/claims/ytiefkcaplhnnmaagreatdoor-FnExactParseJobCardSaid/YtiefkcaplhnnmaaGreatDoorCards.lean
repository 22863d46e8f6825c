/-
  DERIVED. GIVEN WITH THE SEED: THE CARDS: each row of YtiefkcaplhnnmaaGreatDoorRows.lean that lists a variable, with what it lists TIED to the program's text (the seventh form; the later family's looks); each row that meets fmt, with fmt's text TOLD by the authors' own Lean function (tested against real Go, not proved from fmt's source: count such statements apart). THE CARD IS WHAT COUNTS. Prove the row's statement (the work); the ties are given (YtiefkcaplhnnmaaGreatDoorTie.lean); close each card by the builder's one call (the guide's Derived/Test/ToyasCard.lean, 'card_holds'). Laid BY PROGRAM, IN A SANDBOX (cutbox-door.mjs). By AI agents, Wed Nov 11 2026. No macro, syntax, notation, axiom, sorry.
-/
import Derived.Test.YtiefkcaplhnnmaaGreatDoorRows
import GoSem.ClaimSeven
namespace Go.Proofs.YtiefkcaplhnnmaaGreatDoor
namespace Rows

/-- THE TIED CARD OF 'laws.FnExactFormatJob'. -/
def fnExactFormatJobCard : Claim7 := { stood := { row := fnExactFormatJobRow, standIns := [], harness := (true, "5577b0499db799e72c2d0e8ad00b069def81ac1ba45e958809c77cf167479ef0"), looks := true }, kinds := [], alts := [], laidByText := true, laidKinds := [.data, .data, .data], laidTests := true, laidLooks := .later }
def FnExactFormatJobCardSaid : Prop := Claim7.holds Tryz.pinned (.plain (OpenSpec.ofChange fnExactFormatJobSpec)) fnExactFormatJobCard

/-- THE TIED CARD OF 'laws.FnExactParseJob'. -/
def fnExactParseJobCard : Claim7 := { stood := { row := fnExactParseJobRow, standIns := [], harness := (true, "5577b0499db799e72c2d0e8ad00b069def81ac1ba45e958809c77cf167479ef0"), looks := true }, kinds := [], alts := [], laidByText := true, laidKinds := [.data, .data, .data, .data, .sentinel, .sentinel, .pinned], laidTests := true, laidLooks := .later }
def FnExactParseJobCardSaid : Prop := Claim7.holds Tryz.pinned (.plain (OpenSpec.ofChange fnExactParseJobSpec)) fnExactParseJobCard

/-- THE SECOND FORM's CARD OF 'laws.FnExactFormatJob'. -/
def fnExactFormatJobUptoCard : Claim7 := { stood := { row := fnExactFormatJobUptoRow, standIns := [], harness := (true, "5577b0499db799e72c2d0e8ad00b069def81ac1ba45e958809c77cf167479ef0"), looks := true }, kinds := [], alts := [], laidByText := true, laidKinds := [.data, .data, .data], laidTests := true, laidLooks := .later }
def FnExactFormatJobUptoCardSaid : Prop := Claim7.holds Tryz.pinned (.plain (OpenSpec.upto fnExactFormatJobSpec)) fnExactFormatJobUptoCard

/-- THE SECOND FORM's CARD OF 'laws.FnExactParseJob'. -/
def fnExactParseJobUptoCard : Claim7 := { stood := { row := fnExactParseJobUptoRow, standIns := [], harness := (true, "5577b0499db799e72c2d0e8ad00b069def81ac1ba45e958809c77cf167479ef0"), looks := true }, kinds := [], alts := [], laidByText := true, laidKinds := [.data, .data, .data, .data, .sentinel, .sentinel, .pinned], laidTests := true, laidLooks := .later }
def FnExactParseJobUptoCardSaid : Prop := Claim7.holds Tryz.pinned (.plain (OpenSpec.upto fnExactParseJobSpec)) fnExactParseJobUptoCard
end Rows
end Go.Proofs.YtiefkcaplhnnmaaGreatDoor
