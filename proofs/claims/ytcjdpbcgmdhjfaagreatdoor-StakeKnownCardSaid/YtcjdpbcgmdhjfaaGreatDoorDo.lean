import Derived.Test.YtcjdpbcgmdhjfaaGreatDoorDl
namespace Go.Proofs.YtcjdpbcgmdhjfaaGreatDoor
open Go.ChangeShapes Go.WideShapes Go.ChangeAt Go.RowKit
namespace StakeKnown
theorem goes_ok : false = Rows.stakeKnownRow.goesBy Tryz.prog := by kernel_rfl
end StakeKnown
end Go.Proofs.YtcjdpbcgmdhjfaaGreatDoor

