import Derived.Test.YtaplfdajjdbomaaGreatDoorDr
open Int renaming negSucc→qaa
set_option maxRecDepth 1000000
set_option maxHeartbeats 4000000
namespace Go.Ax
open Go Go.Proofs
noncomputable def TC6:List (Nat × Row):=[]
noncomputable def T6:Tpl where
 bits:=15
 next:=11025
 args:=[]
 pre:=aI TC6 []
 uq:=[]
 val:=(.tuple ⟨[(.agg ⟨[(nI 4),(nI 4),(nI 2),(nI 3),(nI 7),(nI 8),(nI 2),(nW 100000000),(nW 0),(nI 50),(nW 100000000),(nI 2),(nS 12941 0 2),(nW 80),(nW 0),(nW 0),(nW 0),(nS 12943 0 1),(nS 12945 0 2),(.slice none 0 0),(.slice none 0 0),(nS 12947 0 1),(.slice none 0 0),(nS 12949 0 2),(.slice none 0 0),(.slice none 0 0),(.slice none 0 0)]⟩),(.bool true)]⟩)
 post:=aI TC6 [(12949,.row [nW 0,nW 0] 45 12949),(12947,.row [nI 0,nW 1,nI 2,nI 0,(.bool false),(.bool false)] 213 12947),(12945,.row [nI 0,nI 0,nI 1,(.int .i64 (qaa 0)),nI 0,nW 50,nI 1,nI 0,nI 1,(.int .i64 (qaa 0)),nI 0,nW 30] 201 12945),(12943,.row [nI 0,nI 1,(.int .i64 (qaa 0)),nI 0,nW 80,nW 80] 222 12943),(12941,.row [nW 50,nW 70] 45 12941)]
 Ci:=[(12941,[12941]),(12943,[12943]),(12945,[12945]),(12947,[12947]),(12949,[12949])]
 next':=13654
theorem awx:T6.fine=true:=by kernel_rfl
theorem auM (t:Nat→TypeId):Lj T6 ((um CM 200).1 20 T6.args (T6.start OT t))=true:=by kernel_rfl
theorem atZ:og Tryz.prog OT 20 T6:=⟨awx,CM,200,Vs,auM⟩
end Go.Ax
