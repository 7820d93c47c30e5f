import Derived.Test.YtaplfdajjdbomaaGreatDoorDo
set_option maxRecDepth 1000000
namespace Go.Ax
open Go Go.Proofs
theorem ayC (t:TypeId):isTrue ((um CM 200).1 5 [] (st1 t))=true:=by kernel_rfl
theorem axM {W:World}(hL:Laid W):Calls Tryz.prog 5 #[] W fun e w'=>e = .returned (.bool true)∧RowKit.Below W.heap.size W w':=FY Vs ayC .nil hL
end Go.Ax
