import Derived.Test.YthghfgcpdblgcaaGreatDoorDo
set_option maxRecDepth 1000000
set_option maxHeartbeats 0
namespace Go.Ax
open Go Go.Proofs
theorem tp61 : roundsJ Tryz.prog CM 60 71 tbody tsp1 tspe 12 thd61 = some thd62 := by kernel_rfl
theorem tp62 : roundsJ Tryz.prog CM 60 71 tbody tsp1 tspe 12 thd62 = some thd63 := by kernel_rfl
theorem tp63 : roundsJ Tryz.prog CM 60 71 tbody tsp1 tspe 12 thd63 = some thd64 := by kernel_rfl
theorem tp64 : roundsJ Tryz.prog CM 60 71 tbody tsp1 tspe 12 thd64 = some thd65 := by kernel_rfl
theorem tp65 : roundsJ Tryz.prog CM 60 71 tbody tsp1 tspe 12 thd65 = some thd66 := by kernel_rfl
theorem tp66 : roundsJ Tryz.prog CM 60 71 tbody tsp1 tspe 12 thd66 = some thd67 := by kernel_rfl
end Go.Ax
