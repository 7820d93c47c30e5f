import Derived.Test.YtaplfdajjdbomaaGreatDoorEb
set_option maxRecDepth 1000000
namespace Go.Ax
open Go Go.Proofs
theorem awJ (t:TypeId):isTrue ((um CX2 200).1 19 [] (st1 t))=true:=by kernel_rfl
theorem anv {W:World}(hL:Laid W):Calls Tryz.prog 19 #[] W fun e w'=>e = .returned (.bool true)∧RowKit.Below W.heap.size W w':=FY arD awJ .nil hL
end Go.Ax
