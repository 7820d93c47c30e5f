import Derived.Test.YtifhpiilobkjiaaGreatDoorDw
set_option maxRecDepth 1000000
namespace Go.Ax
open Go Go.Proofs
theorem runA (s0 : ByteArray) (t : TypeId × TypeId) : isTrue ((jRunN CA 200).1 3 [.string s0] (st1 t)) = true := by kernel_rfl
theorem callsA (s0 : ByteArray) {W : World} (hL : Laid W) : Calls Tryz.prog 3 #[.string s0] W fun e w' => e = .returned (.bool true) ∧ RowKit.Below W.heap.size W w' :=
  calls_of_runL ca_ok (runA s0) (cargs := [_]) (.cons (.string s0) .nil) hL
end Go.Ax

