import Derived.Test.YtmbpmgemhnholaaGreatDoorEb
set_option maxRecDepth 1000000
namespace Go.Ax
open Go Go.Proofs
theorem ksSen_ok : leafKs Tryz.prog 5 32 = some ksSen := by kernel_rfl
theorem ksSta_ok : leafKs Tryz.prog 5 34 = some ksSta := by kernel_rfl
end Go.Ax

