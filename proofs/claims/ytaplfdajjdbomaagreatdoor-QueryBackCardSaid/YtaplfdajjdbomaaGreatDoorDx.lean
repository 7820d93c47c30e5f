import Derived.Test.YtaplfdajjdbomaaGreatDoorDr
open Int renaming negSucc→qaa
set_option maxRecDepth 1000000
set_option maxHeartbeats 4000000
namespace Go.Ax
open Go Go.Proofs
noncomputable def TC5:List (Nat × Row):=[(1988,.row [nW 0,nW 0] 45 1988),(1986,.row [nI 0,nW 1,nI 2,nI 0,(.bool false),(.bool false)] 213 1986),(1984,.row [nI 0,nI 0,nI 1,(.int .i64 (qaa 0)),nI 0,nW 50,nI 1,nI 0,nI 1,(.int .i64 (qaa 0)),nI 0,nW 30] 201 1984),(1982,.row [nI 0,nI 1,(.int .i64 (qaa 0)),nI 0,nW 80,nW 80] 222 1982),(1980,.row [nW 50,nW 70] 45 1980)]
noncomputable def T5:Tpl where
 bits:=15
 next:=8237
 args:=[(.agg ⟨[nI 4,nI 4,nI 2,nI 3,nI 7,nI 8,nI 2,nW 100000000,nW 0,nI 50,nW 100000000,nI 2,(nS 1980 0 2),nW 80,nW 0,nW 0,nW 0,(nS 1982 0 1),(nS 1984 0 2),(.slice none 0 0),(.slice none 0 0),(nS 1986 0 1),(.slice none 0 0),(nS 1988 0 2),(.slice none 0 0),(.slice none 0 0),(.slice none 0 0)]⟩),(.agg ⟨[nI 6,nI 0,nI 0,nI 1,nI 3]⟩),nI 17]
 pre:=aI TC5 []
 uq:=[(1980,[1980]),(1982,[1982]),(1984,[1984]),(1986,[1986]),(1988,[1988])]
 val:=(.bool true)
 post:=aI TC5 []
 Ci:=[(1988,[1988]),(1986,[1986]),(1984,[1984]),(1982,[1982]),(1980,[1980])]
 next':=9167
theorem aw4:T5.fine=true:=by kernel_rfl
theorem axq (t:Nat→TypeId):Lj T5 ((um CM 200).1 23 T5.args (T5.start OT t))=true:=by kernel_rfl
theorem atc:og Tryz.prog OT 23 T5:=⟨aw4,CM,200,Vs,axq⟩
end Go.Ax
