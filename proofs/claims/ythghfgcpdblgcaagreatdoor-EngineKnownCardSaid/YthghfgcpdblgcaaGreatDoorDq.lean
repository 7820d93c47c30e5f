import Derived.Test.YthghfgcpdblgcaaGreatDoorDo
set_option maxRecDepth 1000000
set_option maxHeartbeats 0
namespace Go.Ax
open Go Go.Proofs
theorem tp13 : roundsJ Tryz.prog CM 60 71 tbody tsp1 tspe 4 thd13 = some thd14 := by kernel_rfl
theorem tp14 : roundsJ Tryz.prog CM 60 71 tbody tsp1 tspe 12 thd14 = some thd15 := by kernel_rfl
theorem tp15 : roundsJ Tryz.prog CM 60 71 tbody tsp1 tspe 12 thd15 = some thd16 := by kernel_rfl
theorem tp16 : roundsJ Tryz.prog CM 60 71 tbody tsp1 tspe 12 thd16 = some thd17 := by kernel_rfl
theorem tp17 : roundsJ Tryz.prog CM 60 71 tbody tsp1 tspe 12 thd17 = some thd18 := by kernel_rfl
theorem tp18 : roundsJ Tryz.prog CM 60 71 tbody tsp1 tspe 12 thd18 = some thd19 := by kernel_rfl
end Go.Ax
