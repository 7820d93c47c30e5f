import Derived.Test.YtgpfgjhbiehafaaGreatDoorDm
set_option maxRecDepth 1000000
namespace Go.Ax
open Go Go.Proofs
theorem aqG (t:TypeId × TypeId):isTrue ((Ir CM 200).1 4 [] (st1 t))=true:=by kernel_rfl
theorem alu {W:World}(hL:Laid W):Calls Tryz.prog 4 #[] W fun e w'=>e = .returned (.bool true)∧RowKit.Below W.heap.size W w':=Mc aog aqG .nil hL
end Go.Ax
