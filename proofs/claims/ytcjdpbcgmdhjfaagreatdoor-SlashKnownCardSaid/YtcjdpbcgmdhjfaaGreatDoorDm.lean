import Derived.Test.YtcjdpbcgmdhjfaaGreatDoorDj
namespace Go.Proofs.YtcjdpbcgmdhjfaaGreatDoor
open Go.ChangeShapes Go.WideShapes Go.ChangeAt Go.RowKit
namespace SlashKnown
theorem goes_ok : false = Rows.slashKnownRow.goesBy Tryz.prog := by kernel_rfl
end SlashKnown
end Go.Proofs.YtcjdpbcgmdhjfaaGreatDoor

