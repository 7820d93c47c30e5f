import Derived.Test.YtppfgklggjffiaaGreatDoorEd
namespace Go.Proofs.YtppfgklggjffiaaGreatDoor
open Go.ChangeShapes Go.WideShapes Go.ChangeAt Go.RowKit Go.Ax
namespace AuditNone
theorem goes_ok : false = Rows.auditNoneRow.goesBy Tryz.prog := (goes_none noGoes).symm
end AuditNone
end Go.Proofs.YtppfgklggjffiaaGreatDoor

