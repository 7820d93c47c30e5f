/-
  DERIVED. GIVEN WITH THE SEED: THE CARDS: each row of YtfnngiakmmakfaaGreatDoorRows.lean that lists a variable, with what it lists TIED to the program's text (the seventh form; the later family's looks); each row that meets fmt, with fmt's text TOLD by the authors' own Lean function (tested against real Go, not proved from fmt's source: count such statements apart). THE CARD IS WHAT COUNTS. Prove the row's statement (the work); the ties are given (YtfnngiakmmakfaaGreatDoorTie.lean); close each card by the builder's one call (the guide's Derived/Test/ToyasCard.lean, 'card_holds'). Laid BY PROGRAM, IN A SANDBOX (cutbox-door.mjs). By AI agents, Wed Nov 11 2026. No macro, syntax, notation, axiom, sorry.
-/
import Derived.Test.YtfnngiakmmakfaaGreatDoorRows
import GoSem.ClaimSeven
namespace Go.Proofs.YtfnngiakmmakfaaGreatDoor
namespace Rows

/-- THE TIED CARD OF 'distraintlaw28.ScriptKnown'. -/
def scriptKnownCard : Claim7 := { stood := { row := scriptKnownRow, standIns := [], harness := (true, "89462de1061b6d0481039009f30741ccaa34e4c800287d78c3aaa04a63077b93"), looks := true }, kinds := [], alts := [], laidByText := true, laidKinds := [.handle, .data, .data, .data], laidTests := true, laidLooks := .later }
def ScriptKnownCardSaid : Prop := Claim7.holds Tryz.pinned (.plain (OpenSpec.ofChange scriptKnownSpec)) scriptKnownCard

/-- THE TIED CARD OF 'distraintlaw31.DramaKnown'. -/
def dramaKnownCard : Claim7 := { stood := { row := dramaKnownRow, standIns := [], harness := (true, "89462de1061b6d0481039009f30741ccaa34e4c800287d78c3aaa04a63077b93"), looks := true }, kinds := [], alts := [], laidByText := true, laidKinds := [.handle], laidTests := true, laidLooks := .later }
def DramaKnownCardSaid : Prop := Claim7.holds Tryz.pinned (.plain (OpenSpec.ofChange dramaKnownSpec)) dramaKnownCard

/-- THE SECOND FORM's CARD OF 'distraintlaw28.ScriptKnown'. -/
def scriptKnownUptoCard : Claim7 := { stood := { row := scriptKnownUptoRow, standIns := [], harness := (true, "89462de1061b6d0481039009f30741ccaa34e4c800287d78c3aaa04a63077b93"), looks := true }, kinds := [], alts := [], laidByText := true, laidKinds := [.handle, .data, .data, .data], laidTests := true, laidLooks := .later }
def ScriptKnownUptoCardSaid : Prop := Claim7.holds Tryz.pinned (.plain (OpenSpec.upto scriptKnownSpec)) scriptKnownUptoCard

/-- THE SECOND FORM's CARD OF 'distraintlaw31.DramaKnown'. -/
def dramaKnownUptoCard : Claim7 := { stood := { row := dramaKnownUptoRow, standIns := [], harness := (true, "89462de1061b6d0481039009f30741ccaa34e4c800287d78c3aaa04a63077b93"), looks := true }, kinds := [], alts := [], laidByText := true, laidKinds := [.handle], laidTests := true, laidLooks := .later }
def DramaKnownUptoCardSaid : Prop := Claim7.holds Tryz.pinned (.plain (OpenSpec.upto dramaKnownSpec)) dramaKnownUptoCard
end Rows
end Go.Proofs.YtfnngiakmmakfaaGreatDoor
