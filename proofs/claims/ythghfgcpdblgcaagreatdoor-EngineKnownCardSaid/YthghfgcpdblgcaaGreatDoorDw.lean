import Derived.Test.YthghfgcpdblgcaaGreatDoorDo
set_option maxRecDepth 1000000
set_option maxHeartbeats 0
namespace Go.Ax
open Go Go.Proofs
theorem tp49 : roundsJ Tryz.prog CM 60 71 tbody tsp1 tspe 12 thd49 = some thd50 := by kernel_rfl
theorem tp50 : roundsJ Tryz.prog CM 60 71 tbody tsp1 tspe 12 thd50 = some thd51 := by kernel_rfl
theorem tp51 : roundsJ Tryz.prog CM 60 71 tbody tsp1 tspe 12 thd51 = some thd52 := by kernel_rfl
theorem tp52 : roundsJ Tryz.prog CM 60 71 tbody tsp1 tspe 12 thd52 = some thd53 := by kernel_rfl
theorem tp53 : roundsJ Tryz.prog CM 60 71 tbody tsp1 tspe 12 thd53 = some thd54 := by kernel_rfl
theorem tp54 : roundsJ Tryz.prog CM 60 71 tbody tsp1 tspe 12 thd54 = some thd55 := by kernel_rfl
end Go.Ax
