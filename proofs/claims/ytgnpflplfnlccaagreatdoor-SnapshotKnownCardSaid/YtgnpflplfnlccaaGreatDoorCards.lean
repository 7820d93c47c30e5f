/-
  DERIVED. GIVEN WITH THE SEED: THE CARDS: each row of YtgnpflplfnlccaaGreatDoorRows.lean that lists a variable, with what it lists TIED to the program's text (the seventh form; the later family's looks); each row that meets fmt, with fmt's text TOLD by the authors' own Lean function (tested against real Go, not proved from fmt's source: count such statements apart). THE CARD IS WHAT COUNTS. Prove the row's statement (the work); the ties are given (YtgnpflplfnlccaaGreatDoorTie.lean); close each card by the builder's one call (the guide's Derived/Test/ToyasCard.lean, 'card_holds'). Laid BY PROGRAM, IN A SANDBOX (cutbox-door.mjs). By AI agents, Wed Nov 11 2026. No macro, syntax, notation, axiom, sorry.
-/
import Derived.Test.YtgnpflplfnlccaaGreatDoorRows
import GoSem.ClaimSeven
namespace Go.Proofs.YtgnpflplfnlccaaGreatDoor
namespace Rows

/-- THE TIED CARD OF 'distraintlaw30.SnapshotKnown'. -/
def snapshotKnownCard : Claim7 := { stood := { row := snapshotKnownRow, standIns := [], harness := (true, "6bdbf8c1784f8ff4aa032e7a0a4b7ed569d25e68661eee78cb04e7b1ff79ad5e"), looks := true }, kinds := [], alts := [], laidByText := true, laidKinds := [.handle], laidTests := true, laidLooks := .later }
def SnapshotKnownCardSaid : Prop := Claim7.holds Tryz.pinned (.plain (OpenSpec.ofChange snapshotKnownSpec)) snapshotKnownCard

/-- THE SECOND FORM's CARD OF 'distraintlaw30.SnapshotKnown'. -/
def snapshotKnownUptoCard : Claim7 := { stood := { row := snapshotKnownUptoRow, standIns := [], harness := (true, "6bdbf8c1784f8ff4aa032e7a0a4b7ed569d25e68661eee78cb04e7b1ff79ad5e"), looks := true }, kinds := [], alts := [], laidByText := true, laidKinds := [.handle], laidTests := true, laidLooks := .later }
def SnapshotKnownUptoCardSaid : Prop := Claim7.holds Tryz.pinned (.plain (OpenSpec.upto snapshotKnownSpec)) snapshotKnownUptoCard
end Rows
end Go.Proofs.YtgnpflplfnlccaaGreatDoor
