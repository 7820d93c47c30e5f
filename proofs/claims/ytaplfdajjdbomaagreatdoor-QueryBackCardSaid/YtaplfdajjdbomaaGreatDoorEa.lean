import Derived.Test.YtaplfdajjdbomaaGreatDoorDz
set_option maxRecDepth 1000000
set_option maxHeartbeats 4000000
namespace Go.Ax
open Go Go.Proofs
noncomputable def TC7:List (Nat × Row):=[]
noncomputable def T7:Tpl where
 bits:=15
 next:=11025
 args:=[]
 pre:=aI TC7 []
 uq:=[]
 val:=(.bool true)
 post:=aI TC7 []
 Ci:=[]
 next':=16476
theorem awT:T7.fine=true:=by kernel_rfl
theorem avt (t:Nat→TypeId):Lj T7 ((um CX1 200).1 5 T7.args (T7.start OT t))=true:=by kernel_rfl
theorem awf:og Tryz.prog OT 5 T7:=⟨awT,CX1,200,arv,avt⟩
end Go.Ax
