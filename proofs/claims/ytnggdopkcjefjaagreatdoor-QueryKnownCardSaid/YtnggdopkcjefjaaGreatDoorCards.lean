/-
  DERIVED. GIVEN WITH THE SEED: THE CARDS: each row of YtnggdopkcjefjaaGreatDoorRows.lean that lists a variable, with what it lists TIED to the program's text (the seventh form; the later family's looks); each row that meets fmt, with fmt's text TOLD by the authors' own Lean function (tested against real Go, not proved from fmt's source: count such statements apart). THE CARD IS WHAT COUNTS. Prove the row's statement (the work); the ties are given (YtnggdopkcjefjaaGreatDoorTie.lean); close each card by the builder's one call (the guide's Derived/Test/ToyasCard.lean, 'card_holds'). Laid BY PROGRAM, IN A SANDBOX (cutbox-door.mjs). By AI agents, Wed Nov 11 2026. No macro, syntax, notation, axiom, sorry.
-/
import Derived.Test.YtnggdopkcjefjaaGreatDoorRows
import GoSem.ClaimSeven
namespace Go.Proofs.YtnggdopkcjefjaaGreatDoor
namespace Rows

/-- THE TIED CARD OF 'distraintlaw27.QueryKnown'. -/
def queryKnownCard : Claim7 := { stood := { row := queryKnownRow, standIns := [], harness := (true, "dd0505904f0092c12615535d6a362433958619c5dcf68f00a79c8796761cfa21"), looks := true }, kinds := [], alts := [], laidByText := true, laidKinds := [.handle], laidTests := true, laidLooks := .later }
def QueryKnownCardSaid : Prop := Claim7.holds Tryz.pinned (.plain (OpenSpec.ofChange queryKnownSpec)) queryKnownCard

/-- THE SECOND FORM's CARD OF 'distraintlaw27.QueryKnown'. -/
def queryKnownUptoCard : Claim7 := { stood := { row := queryKnownUptoRow, standIns := [], harness := (true, "dd0505904f0092c12615535d6a362433958619c5dcf68f00a79c8796761cfa21"), looks := true }, kinds := [], alts := [], laidByText := true, laidKinds := [.handle], laidTests := true, laidLooks := .later }
def QueryKnownUptoCardSaid : Prop := Claim7.holds Tryz.pinned (.plain (OpenSpec.upto queryKnownSpec)) queryKnownUptoCard
end Rows
end Go.Proofs.YtnggdopkcjefjaaGreatDoor
