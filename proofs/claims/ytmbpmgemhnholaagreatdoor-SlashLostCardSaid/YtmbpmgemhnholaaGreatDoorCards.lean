/-
  DERIVED. GIVEN WITH THE SEED: THE CARDS: each row of YtmbpmgemhnholaaGreatDoorRows.lean that lists a variable, with what it lists TIED to the program's text (the seventh form; the later family's looks); each row that meets fmt, with fmt's text TOLD by the authors' own Lean function (tested against real Go, not proved from fmt's source: count such statements apart). THE CARD IS WHAT COUNTS. Prove the row's statement (the work); the ties are given (YtmbpmgemhnholaaGreatDoorTie.lean); close each card by the builder's one call (the guide's Derived/Test/ToyasCard.lean, 'card_holds'). Laid BY PROGRAM, IN A SANDBOX (cutbox-door.mjs). By AI agents, Wed Nov 11 2026. No macro, syntax, notation, axiom, sorry.
-/
import Derived.Test.YtmbpmgemhnholaaGreatDoorRows
import GoSem.ClaimSeven
namespace Go.Proofs.YtmbpmgemhnholaaGreatDoor
namespace Rows

/-- THE TIED CARD OF 'distraintlaw25.SlashLost'. -/
def slashLostCard : Claim7 := { stood := { row := slashLostRow, standIns := [], harness := (true, "9004cbc587d76c35c39820c5bdc22c85421394b2c1bd55c76c57119ac62200c7"), looks := true }, kinds := [], alts := [], laidByText := true, laidKinds := [.handle], laidTests := true, laidLooks := .later }
def SlashLostCardSaid : Prop := Claim7.holds Tryz.pinned (.plain (OpenSpec.ofChange slashLostSpec)) slashLostCard

/-- THE SECOND FORM's CARD OF 'distraintlaw25.SlashLost'. -/
def slashLostUptoCard : Claim7 := { stood := { row := slashLostUptoRow, standIns := [], harness := (true, "9004cbc587d76c35c39820c5bdc22c85421394b2c1bd55c76c57119ac62200c7"), looks := true }, kinds := [], alts := [], laidByText := true, laidKinds := [.handle], laidTests := true, laidLooks := .later }
def SlashLostUptoCardSaid : Prop := Claim7.holds Tryz.pinned (.plain (OpenSpec.upto slashLostSpec)) slashLostUptoCard
end Rows
end Go.Proofs.YtmbpmgemhnholaaGreatDoor
