/-
  DERIVED. GIVEN WITH THE SEED: THE CARDS: each row of YtppfgklggjffiaaGreatDoorRows.lean that lists a variable, with what it lists TIED to the program's text (the seventh form; the later family's looks); each row that meets fmt, with fmt's text TOLD by the authors' own Lean function (tested against real Go, not proved from fmt's source: count such statements apart). THE CARD IS WHAT COUNTS. Prove the row's statement (the work); the ties are given (YtppfgklggjffiaaGreatDoorTie.lean); close each card by the builder's one call (the guide's Derived/Test/ToyasCard.lean, 'card_holds'). Laid BY PROGRAM, IN A SANDBOX (cutbox-door.mjs). By AI agents, Wed Nov 11 2026. No macro, syntax, notation, axiom, sorry.
-/
import Derived.Test.YtppfgklggjffiaaGreatDoorRows
import GoSem.ClaimSeven
namespace Go.Proofs.YtppfgklggjffiaaGreatDoor
namespace Rows

/-- THE TIED CARD OF 'distraintlaw29.AuditNone'. -/
def auditNoneCard : Claim7 := { stood := { row := auditNoneRow, standIns := [], harness := (true, "ee13a1acf12b2e8495c66b708ee2a1098ac41483d07f91243bb0c9144394715e"), looks := true }, kinds := [], alts := [], laidByText := true, laidKinds := [.handle], laidTests := true, laidLooks := .later }
def AuditNoneCardSaid : Prop := Claim7.holds Tryz.pinned (.plain (OpenSpec.ofChange auditNoneSpec)) auditNoneCard

/-- THE TIED CARD OF 'distraintlaw29.AuditKnown'. -/
def auditKnownCard : Claim7 := { stood := { row := auditKnownRow, standIns := [], harness := (true, "ee13a1acf12b2e8495c66b708ee2a1098ac41483d07f91243bb0c9144394715e"), looks := true }, kinds := [], alts := [], laidByText := true, laidKinds := [.handle], laidTests := true, laidLooks := .later }
def AuditKnownCardSaid : Prop := Claim7.holds Tryz.pinned (.plain (OpenSpec.ofChange auditKnownSpec)) auditKnownCard

/-- THE SECOND FORM's CARD OF 'distraintlaw29.AuditNone'. -/
def auditNoneUptoCard : Claim7 := { stood := { row := auditNoneUptoRow, standIns := [], harness := (true, "ee13a1acf12b2e8495c66b708ee2a1098ac41483d07f91243bb0c9144394715e"), looks := true }, kinds := [], alts := [], laidByText := true, laidKinds := [.handle], laidTests := true, laidLooks := .later }
def AuditNoneUptoCardSaid : Prop := Claim7.holds Tryz.pinned (.plain (OpenSpec.upto auditNoneSpec)) auditNoneUptoCard

/-- THE SECOND FORM's CARD OF 'distraintlaw29.AuditKnown'. -/
def auditKnownUptoCard : Claim7 := { stood := { row := auditKnownUptoRow, standIns := [], harness := (true, "ee13a1acf12b2e8495c66b708ee2a1098ac41483d07f91243bb0c9144394715e"), looks := true }, kinds := [], alts := [], laidByText := true, laidKinds := [.handle], laidTests := true, laidLooks := .later }
def AuditKnownUptoCardSaid : Prop := Claim7.holds Tryz.pinned (.plain (OpenSpec.upto auditKnownSpec)) auditKnownUptoCard
end Rows
end Go.Proofs.YtppfgklggjffiaaGreatDoor
