import Derived.Test.YthghfgcpdblgcaaGreatDoorDo
set_option maxRecDepth 1000000
set_option maxHeartbeats 0
namespace Go.Ax
open Go Go.Proofs
theorem tp79 : roundsJ Tryz.prog CM 60 71 tbody tsp1 tspe 12 thd79 = some thd80 := by kernel_rfl
theorem tp80 : roundsJ Tryz.prog CM 60 71 tbody tsp1 tspe 12 thd80 = some thd81 := by kernel_rfl
theorem tp81 : roundsJ Tryz.prog CM 60 71 tbody tsp1 tspe 12 thd81 = some thd82 := by kernel_rfl
theorem tp82 : roundsJ Tryz.prog CM 60 71 tbody tsp1 tspe 12 thd82 = some thd83 := by kernel_rfl
theorem tp83 : roundsJ Tryz.prog CM 60 71 tbody tsp1 tspe 12 thd83 = some thd84 := by kernel_rfl
theorem tp84 : roundsJ Tryz.prog CM 60 71 tbody tsp1 tspe 12 thd84 = some thd85 := by kernel_rfl
end Go.Ax
