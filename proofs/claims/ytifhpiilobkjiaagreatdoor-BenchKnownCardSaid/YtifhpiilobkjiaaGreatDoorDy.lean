import Derived.Test.YtifhpiilobkjiaaGreatDoorDx
set_option maxRecDepth 1000000
namespace Go.Ax
open Go Go.Proofs
theorem run4 (t : TypeId × TypeId) : isTrue ((jRunN CX2 200).1 4 [] (st1 t)) = true := by kernel_rfl
theorem calls4 {W : World} (hL : Laid W) : Calls Tryz.prog 4 #[] W fun e w' => e = .returned (.bool true) ∧ RowKit.Below W.heap.size W w' := calls_of_runL cx2_ok run4 .nil hL
end Go.Ax

