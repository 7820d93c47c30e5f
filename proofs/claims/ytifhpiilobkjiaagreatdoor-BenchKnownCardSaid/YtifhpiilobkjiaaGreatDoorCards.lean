/-
  DERIVED. GIVEN WITH THE SEED: THE CARDS: each row of YtifhpiilobkjiaaGreatDoorRows.lean that lists a variable, with what it lists TIED to the program's text (the seventh form; the later family's looks); each row that meets fmt, with fmt's text TOLD by the authors' own Lean function (tested against real Go, not proved from fmt's source: count such statements apart). THE CARD IS WHAT COUNTS. Prove the row's statement (the work); the ties are given (YtifhpiilobkjiaaGreatDoorTie.lean); close each card by the builder's one call (the guide's Derived/Test/ToyasCard.lean, 'card_holds'). Laid BY PROGRAM, IN A SANDBOX (cutbox-door.mjs). By AI agents, Wed Nov 11 2026. No macro, syntax, notation, axiom, sorry.
-/
import Derived.Test.YtifhpiilobkjiaaGreatDoorRows
import GoSem.ClaimSeven
namespace Go.Proofs.YtifhpiilobkjiaaGreatDoor
namespace Rows

/-- THE TIED CARD OF 'distraintlaw32.BenchNone'. -/
def benchNoneCard : Claim7 := { stood := { row := benchNoneRow, standIns := [], harness := (true, "cfc4b8ce42d2d14e40c30fe550a4754eb877d9dd1fd7f1cf1c70eadfa0bafce2"), looks := true }, kinds := [], alts := [], laidByText := true, laidKinds := [.data, .data, .data, .pinned, .data, .handle, .sentinel, .sentinel], laidTests := true, laidLooks := .later }
def BenchNoneCardSaid : Prop := Claim7.holds Tryz.pinned (.plain (OpenSpec.ofChange benchNoneSpec)) benchNoneCard

/-- THE TIED CARD OF 'distraintlaw32.BenchKnown'. -/
def benchKnownCard : Claim7 := { stood := { row := benchKnownRow, standIns := [], harness := (true, "cfc4b8ce42d2d14e40c30fe550a4754eb877d9dd1fd7f1cf1c70eadfa0bafce2"), looks := true }, kinds := [], alts := [], laidByText := true, laidKinds := [.data, .data, .data, .pinned, .data, .handle, .sentinel, .sentinel], laidTests := true, laidLooks := .later }
def BenchKnownCardSaid : Prop := Claim7.holds Tryz.pinned (.plain (OpenSpec.ofChange benchKnownSpec)) benchKnownCard

/-- THE SECOND FORM's CARD OF 'distraintlaw32.BenchNone'. -/
def benchNoneUptoCard : Claim7 := { stood := { row := benchNoneUptoRow, standIns := [], harness := (true, "cfc4b8ce42d2d14e40c30fe550a4754eb877d9dd1fd7f1cf1c70eadfa0bafce2"), looks := true }, kinds := [], alts := [], laidByText := true, laidKinds := [.data, .data, .data, .pinned, .data, .handle, .sentinel, .sentinel], laidTests := true, laidLooks := .later }
def BenchNoneUptoCardSaid : Prop := Claim7.holds Tryz.pinned (.plain (OpenSpec.upto benchNoneSpec)) benchNoneUptoCard

/-- THE SECOND FORM's CARD OF 'distraintlaw32.BenchKnown'. -/
def benchKnownUptoCard : Claim7 := { stood := { row := benchKnownUptoRow, standIns := [], harness := (true, "cfc4b8ce42d2d14e40c30fe550a4754eb877d9dd1fd7f1cf1c70eadfa0bafce2"), looks := true }, kinds := [], alts := [], laidByText := true, laidKinds := [.data, .data, .data, .pinned, .data, .handle, .sentinel, .sentinel], laidTests := true, laidLooks := .later }
def BenchKnownUptoCardSaid : Prop := Claim7.holds Tryz.pinned (.plain (OpenSpec.upto benchKnownSpec)) benchKnownUptoCard
end Rows
end Go.Proofs.YtifhpiilobkjiaaGreatDoor
