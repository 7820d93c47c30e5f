/-
  DERIVED. GIVEN WITH THE SEED: THE CARDS: each row of YtcjdpbcgmdhjfaaGreatDoorRows.lean that lists a variable, with what it lists TIED to the program's text (the seventh form; the later family's looks); each row that meets fmt, with fmt's text TOLD by the authors' own Lean function (tested against real Go, not proved from fmt's source: count such statements apart). THE CARD IS WHAT COUNTS. Prove the row's statement (the work); the ties are given (YtcjdpbcgmdhjfaaGreatDoorTie.lean); close each card by the builder's one call (the guide's Derived/Test/ToyasCard.lean, 'card_holds'). Laid BY PROGRAM, IN A SANDBOX (cutbox-door.mjs). By AI agents, Wed Nov 11 2026. No macro, syntax, notation, axiom, sorry.
-/
import Derived.Test.YtcjdpbcgmdhjfaaGreatDoorRows
import GoSem.ClaimSeven
namespace Go.Proofs.YtcjdpbcgmdhjfaaGreatDoor
namespace Rows

/-- THE TIED CARD OF 'distraintlaw18.StakeKnown'. -/
def stakeKnownCard : Claim7 := { stood := { row := stakeKnownRow, standIns := [], harness := (true, "acd5518647d2ca4766a96201196ba0ba6dfaf585495eaa859b91910bda74994f"), looks := true }, kinds := [], alts := [], laidByText := true, laidKinds := [.handle], laidTests := true, laidLooks := .later }
def StakeKnownCardSaid : Prop := Claim7.holds Tryz.pinned (.plain (OpenSpec.ofChange stakeKnownSpec)) stakeKnownCard

/-- THE TIED CARD OF 'distraintlaw18.StakeNone'. -/
def stakeNoneCard : Claim7 := { stood := { row := stakeNoneRow, standIns := [], harness := (true, "acd5518647d2ca4766a96201196ba0ba6dfaf585495eaa859b91910bda74994f"), looks := true }, kinds := [], alts := [], laidByText := true, laidKinds := [.handle], laidTests := true, laidLooks := .later }
def StakeNoneCardSaid : Prop := Claim7.holds Tryz.pinned (.plain (OpenSpec.ofChange stakeNoneSpec)) stakeNoneCard

/-- THE TIED CARD OF 'distraintlaw25.SlashNone'. -/
def slashNoneCard : Claim7 := { stood := { row := slashNoneRow, standIns := [], harness := (true, "acd5518647d2ca4766a96201196ba0ba6dfaf585495eaa859b91910bda74994f"), looks := true }, kinds := [], alts := [], laidByText := true, laidKinds := [.handle], laidTests := true, laidLooks := .later }
def SlashNoneCardSaid : Prop := Claim7.holds Tryz.pinned (.plain (OpenSpec.ofChange slashNoneSpec)) slashNoneCard

/-- THE TIED CARD OF 'distraintlaw25.SlashLost'. -/
def slashLostCard : Claim7 := { stood := { row := slashLostRow, standIns := [], harness := (true, "acd5518647d2ca4766a96201196ba0ba6dfaf585495eaa859b91910bda74994f"), looks := true }, kinds := [], alts := [], laidByText := true, laidKinds := [.handle], laidTests := true, laidLooks := .later }
def SlashLostCardSaid : Prop := Claim7.holds Tryz.pinned (.plain (OpenSpec.ofChange slashLostSpec)) slashLostCard

/-- THE TIED CARD OF 'distraintlaw25.SlashKnown'. -/
def slashKnownCard : Claim7 := { stood := { row := slashKnownRow, standIns := [], harness := (true, "acd5518647d2ca4766a96201196ba0ba6dfaf585495eaa859b91910bda74994f"), looks := true }, kinds := [], alts := [], laidByText := true, laidKinds := [.handle], laidTests := true, laidLooks := .later }
def SlashKnownCardSaid : Prop := Claim7.holds Tryz.pinned (.plain (OpenSpec.ofChange slashKnownSpec)) slashKnownCard

/-- THE SECOND FORM's CARD OF 'distraintlaw18.StakeKnown'. -/
def stakeKnownUptoCard : Claim7 := { stood := { row := stakeKnownUptoRow, standIns := [], harness := (true, "acd5518647d2ca4766a96201196ba0ba6dfaf585495eaa859b91910bda74994f"), looks := true }, kinds := [], alts := [], laidByText := true, laidKinds := [.handle], laidTests := true, laidLooks := .later }
def StakeKnownUptoCardSaid : Prop := Claim7.holds Tryz.pinned (.plain (OpenSpec.upto stakeKnownSpec)) stakeKnownUptoCard

/-- THE SECOND FORM's CARD OF 'distraintlaw18.StakeNone'. -/
def stakeNoneUptoCard : Claim7 := { stood := { row := stakeNoneUptoRow, standIns := [], harness := (true, "acd5518647d2ca4766a96201196ba0ba6dfaf585495eaa859b91910bda74994f"), looks := true }, kinds := [], alts := [], laidByText := true, laidKinds := [.handle], laidTests := true, laidLooks := .later }
def StakeNoneUptoCardSaid : Prop := Claim7.holds Tryz.pinned (.plain (OpenSpec.upto stakeNoneSpec)) stakeNoneUptoCard

/-- THE SECOND FORM's CARD OF 'distraintlaw25.SlashNone'. -/
def slashNoneUptoCard : Claim7 := { stood := { row := slashNoneUptoRow, standIns := [], harness := (true, "acd5518647d2ca4766a96201196ba0ba6dfaf585495eaa859b91910bda74994f"), looks := true }, kinds := [], alts := [], laidByText := true, laidKinds := [.handle], laidTests := true, laidLooks := .later }
def SlashNoneUptoCardSaid : Prop := Claim7.holds Tryz.pinned (.plain (OpenSpec.upto slashNoneSpec)) slashNoneUptoCard

/-- THE SECOND FORM's CARD OF 'distraintlaw25.SlashLost'. -/
def slashLostUptoCard : Claim7 := { stood := { row := slashLostUptoRow, standIns := [], harness := (true, "acd5518647d2ca4766a96201196ba0ba6dfaf585495eaa859b91910bda74994f"), looks := true }, kinds := [], alts := [], laidByText := true, laidKinds := [.handle], laidTests := true, laidLooks := .later }
def SlashLostUptoCardSaid : Prop := Claim7.holds Tryz.pinned (.plain (OpenSpec.upto slashLostSpec)) slashLostUptoCard

/-- THE SECOND FORM's CARD OF 'distraintlaw25.SlashKnown'. -/
def slashKnownUptoCard : Claim7 := { stood := { row := slashKnownUptoRow, standIns := [], harness := (true, "acd5518647d2ca4766a96201196ba0ba6dfaf585495eaa859b91910bda74994f"), looks := true }, kinds := [], alts := [], laidByText := true, laidKinds := [.handle], laidTests := true, laidLooks := .later }
def SlashKnownUptoCardSaid : Prop := Claim7.holds Tryz.pinned (.plain (OpenSpec.upto slashKnownSpec)) slashKnownUptoCard
end Rows
end Go.Proofs.YtcjdpbcgmdhjfaaGreatDoor
