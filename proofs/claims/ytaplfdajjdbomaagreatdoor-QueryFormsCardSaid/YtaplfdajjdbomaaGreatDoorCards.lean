/-
  DERIVED. GIVEN WITH THE SEED: THE CARDS: each row of YtaplfdajjdbomaaGreatDoorRows.lean that lists a variable, with what it lists TIED to the program's text (the seventh form; the later family's looks); each row that meets fmt, with fmt's text TOLD by the authors' own Lean function (tested against real Go, not proved from fmt's source: count such statements apart). THE CARD IS WHAT COUNTS. Prove the row's statement (the work); the ties are given (YtaplfdajjdbomaaGreatDoorTie.lean); close each card by the builder's one call (the guide's Derived/Test/ToyasCard.lean, 'card_holds'). Laid BY PROGRAM, IN A SANDBOX (cutbox-door.mjs). By AI agents, Wed Nov 11 2026. No macro, syntax, notation, axiom, sorry.
-/
import Derived.Test.YtaplfdajjdbomaaGreatDoorRows
import GoSem.ClaimSeven
namespace Go.Proofs.YtaplfdajjdbomaaGreatDoor
namespace Rows

/-- THE TIED CARD OF 'distraintlaw27.QueryForms'. -/
def queryFormsCard : Claim7 := { stood := { row := queryFormsRow, standIns := [], harness := (true, "9872d45de25e3630ca267ed02759b03855c85da2a771de0c729d84734b1ea837"), looks := true }, kinds := [], alts := [], laidByText := true, laidKinds := [.handle], laidTests := true, laidLooks := .later }
def QueryFormsCardSaid : Prop := Claim7.holds Tryz.pinned (.plain (OpenSpec.ofChange queryFormsSpec)) queryFormsCard

/-- THE TIED CARD OF 'distraintlaw27.QueryBack'. -/
def queryBackCard : Claim7 := { stood := { row := queryBackRow, standIns := [], harness := (true, "9872d45de25e3630ca267ed02759b03855c85da2a771de0c729d84734b1ea837"), looks := true }, kinds := [], alts := [], laidByText := true, laidKinds := [.handle], laidTests := true, laidLooks := .later }
def QueryBackCardSaid : Prop := Claim7.holds Tryz.pinned (.plain (OpenSpec.ofChange queryBackSpec)) queryBackCard

/-- THE SECOND FORM's CARD OF 'distraintlaw27.QueryForms'. -/
def queryFormsUptoCard : Claim7 := { stood := { row := queryFormsUptoRow, standIns := [], harness := (true, "9872d45de25e3630ca267ed02759b03855c85da2a771de0c729d84734b1ea837"), looks := true }, kinds := [], alts := [], laidByText := true, laidKinds := [.handle], laidTests := true, laidLooks := .later }
def QueryFormsUptoCardSaid : Prop := Claim7.holds Tryz.pinned (.plain (OpenSpec.upto queryFormsSpec)) queryFormsUptoCard

/-- THE SECOND FORM's CARD OF 'distraintlaw27.QueryBack'. -/
def queryBackUptoCard : Claim7 := { stood := { row := queryBackUptoRow, standIns := [], harness := (true, "9872d45de25e3630ca267ed02759b03855c85da2a771de0c729d84734b1ea837"), looks := true }, kinds := [], alts := [], laidByText := true, laidKinds := [.handle], laidTests := true, laidLooks := .later }
def QueryBackUptoCardSaid : Prop := Claim7.holds Tryz.pinned (.plain (OpenSpec.upto queryBackSpec)) queryBackUptoCard
end Rows
end Go.Proofs.YtaplfdajjdbomaaGreatDoor
