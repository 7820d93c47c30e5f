import Derived.Test.YtaplfdajjdbomaaGreatDoorDn
set_option maxRecDepth 1000000
namespace Go.Ax
open Go Go.Proofs
theorem aB0 (t:TypeId):isTrue ((KF CM 200).1 5 [] (st1 t))=true:=by kernel_rfl
theorem aut {W:World}(hL:Laid W):Calls Tryz.prog 5 #[] W fun e w'=>e = .returned (.bool true)∧RowKit.Below W.heap.size W w':=VN axP aB0 .nil hL
end Go.Ax
