import Derived.Test.YthghfgcpdblgcaaGreatDoorDo
set_option maxRecDepth 1000000
set_option maxHeartbeats 0
namespace Go.Ax
open Go Go.Proofs
theorem tp25 : roundsJ Tryz.prog CM 60 71 tbody tsp1 tspe 12 thd25 = some thd26 := by kernel_rfl
theorem tp26 : roundsJ Tryz.prog CM 60 71 tbody tsp1 tspe 12 thd26 = some thd27 := by kernel_rfl
theorem tp27 : roundsJ Tryz.prog CM 60 71 tbody tsp1 tspe 12 thd27 = some thd28 := by kernel_rfl
theorem tp28 : roundsJ Tryz.prog CM 60 71 tbody tsp1 tspe 12 thd28 = some thd29 := by kernel_rfl
theorem tp29 : roundsJ Tryz.prog CM 60 71 tbody tsp1 tspe 12 thd29 = some thd30 := by kernel_rfl
theorem tp30 : roundsJ Tryz.prog CM 60 71 tbody tsp1 tspe 12 thd30 = some thd31 := by kernel_rfl
end Go.Ax
