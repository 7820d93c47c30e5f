/-
  DERIVED. GIVEN WITH THE SEED: THE CARDS: each row of YthghfgcpdblgcaaGreatDoorRows.lean that lists a variable, with what it lists TIED to the program's text (the seventh form; the later family's looks); each row that meets fmt, with fmt's text TOLD by the authors' own Lean function (tested against real Go, not proved from fmt's source: count such statements apart). THE CARD IS WHAT COUNTS. Prove the row's statement (the work); the ties are given (YthghfgcpdblgcaaGreatDoorTie.lean); close each card by the builder's one call (the guide's Derived/Test/ToyasCard.lean, 'card_holds'). Laid BY PROGRAM, IN A SANDBOX (cutbox-door.mjs). By AI agents, Wed Nov 11 2026. No macro, syntax, notation, axiom, sorry.
-/
import Derived.Test.YthghfgcpdblgcaaGreatDoorRows
import GoSem.ClaimSeven
namespace Go.Proofs.YthghfgcpdblgcaaGreatDoor
namespace Rows

/-- THE TIED CARD OF 'distraintlaw26.EngineKnown'. -/
def engineKnownCard : Claim7 := { stood := { row := engineKnownRow, standIns := [], harness := (true, "4ffdbfc3128364f98260675f7b2952ed4bc793dc91d7aacb1afb35e7540f28b3"), looks := true }, kinds := [], alts := [], laidByText := true, laidKinds := [.handle], laidTests := true, laidLooks := .later }
def EngineKnownCardSaid : Prop := Claim7.holds Tryz.pinned (.plain (OpenSpec.ofChange engineKnownSpec)) engineKnownCard

/-- THE SECOND FORM's CARD OF 'distraintlaw26.EngineKnown'. -/
def engineKnownUptoCard : Claim7 := { stood := { row := engineKnownUptoRow, standIns := [], harness := (true, "4ffdbfc3128364f98260675f7b2952ed4bc793dc91d7aacb1afb35e7540f28b3"), looks := true }, kinds := [], alts := [], laidByText := true, laidKinds := [.handle], laidTests := true, laidLooks := .later }
def EngineKnownUptoCardSaid : Prop := Claim7.holds Tryz.pinned (.plain (OpenSpec.upto engineKnownSpec)) engineKnownUptoCard
end Rows
end Go.Proofs.YthghfgcpdblgcaaGreatDoor
