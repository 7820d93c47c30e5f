import Derived.Test.YtifhpiilobkjiaaGreatDoorDr
import Derived.Test.YtifhpiilobkjiaaGreatDoorDg
set_option maxRecDepth 1000000
set_option maxHeartbeats 4000000
namespace Go.Ax
open Go Go.Proofs
noncomputable section
def nI (n : Nat) : Value := .int .i64 (Int.ofNat n)
def nW (n : Nat) : Value := .int .u64 (Int.ofNat n)
def nB (n : Nat) : Value := .int .u8 (Int.ofNat n)
def nP (b o : Nat) : Value := .pointer (some ⟨b, o, none⟩)
def nS (b o n : Nat) : Value := .slice (some ⟨b, o, none⟩) n bigCap
def lows : Low := [(4, row0), (3, row1)]
end
end Go.Ax

