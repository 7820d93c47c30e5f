import Derived.Test.YtppfgklggjffiaaGreatDoorEh
namespace Go.Proofs.YtppfgklggjffiaaGreatDoor
open Go.ChangeShapes Go.WideShapes Go.ChangeAt Go.RowKit Go.Ax
namespace AuditKnown
theorem goes_ok : false = Rows.auditKnownRow.goesBy Tryz.prog := (goes_none noGoes).symm
end AuditKnown
end Go.Proofs.YtppfgklggjffiaaGreatDoor

