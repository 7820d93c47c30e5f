import Derived.Test.YtaplfdajjdbomaaGreatDoorDo
import Derived.Test.YtaplfdajjdbomaaGreatDoorDc
open Int renaming ofNat→qaa
set_option maxRecDepth 1000000
set_option maxHeartbeats 4000000
namespace Go.Ax
open Go Go.Proofs
noncomputable section
def nI (n:Nat):Value:=.int .i64 (qaa n)
def nW (n:Nat):Value:=.int .u64 (qaa n)
def nB (n:Nat):Value:=.int .u8 (qaa n)
def nP (b o:Nat):Value:=.pointer (some ⟨b,o,none⟩)
def nS (b o n:Nat):Value:=.slice (some ⟨b,o,none⟩) n aF
def OT:Low:=[(0,row0)]
end
end Go.Ax
