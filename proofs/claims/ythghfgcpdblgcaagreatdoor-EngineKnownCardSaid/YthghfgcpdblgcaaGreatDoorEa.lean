import Derived.Test.YthghfgcpdblgcaaGreatDoorDo
set_option maxRecDepth 1000000
set_option maxHeartbeats 0
namespace Go.Ax
open Go Go.Proofs
theorem tp73 : roundsJ Tryz.prog CM 60 71 tbody tsp1 tspe 12 thd73 = some thd74 := by kernel_rfl
theorem tp74 : roundsJ Tryz.prog CM 60 71 tbody tsp1 tspe 12 thd74 = some thd75 := by kernel_rfl
theorem tp75 : roundsJ Tryz.prog CM 60 71 tbody tsp1 tspe 12 thd75 = some thd76 := by kernel_rfl
theorem tp76 : roundsJ Tryz.prog CM 60 71 tbody tsp1 tspe 12 thd76 = some thd77 := by kernel_rfl
theorem tp77 : roundsJ Tryz.prog CM 60 71 tbody tsp1 tspe 12 thd77 = some thd78 := by kernel_rfl
theorem tp78 : roundsJ Tryz.prog CM 60 71 tbody tsp1 tspe 12 thd78 = some thd79 := by kernel_rfl
end Go.Ax
