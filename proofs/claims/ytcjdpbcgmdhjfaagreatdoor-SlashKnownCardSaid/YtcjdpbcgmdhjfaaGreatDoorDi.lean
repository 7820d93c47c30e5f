import Derived.Test.YtcjdpbcgmdhjfaaGreatDoorDh
set_option maxRecDepth 1000000
namespace Go.Ax
open Go
theorem run7 : isTrue ((jRunN CC 200).1 7 [] st0) = true := by kernel_rfl
theorem calls7 (W : World) : Calls Go.Proofs.Tryz.prog 7 #[] W fun e w' => e = .returned (.bool true) ∧ RowKit.Below W.heap.size W w' := calls_of_run run7 W
end Go.Ax

