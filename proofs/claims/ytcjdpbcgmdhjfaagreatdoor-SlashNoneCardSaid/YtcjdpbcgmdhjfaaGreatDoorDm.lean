import Derived.Test.YtcjdpbcgmdhjfaaGreatDoorDj
namespace Go.Proofs.YtcjdpbcgmdhjfaaGreatDoor
open Go.ChangeShapes Go.WideShapes Go.ChangeAt Go.RowKit
namespace SlashNone
theorem goes_ok : false = Rows.slashNoneRow.goesBy Tryz.prog := by kernel_rfl
end SlashNone
end Go.Proofs.YtcjdpbcgmdhjfaaGreatDoor

