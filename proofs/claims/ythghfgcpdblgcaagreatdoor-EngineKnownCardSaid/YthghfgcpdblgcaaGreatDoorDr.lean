import Derived.Test.YthghfgcpdblgcaaGreatDoorDo
set_option maxRecDepth 1000000
set_option maxHeartbeats 0
namespace Go.Ax
open Go Go.Proofs
theorem tp19 : roundsJ Tryz.prog CM 60 71 tbody tsp1 tspe 12 thd19 = some thd20 := by kernel_rfl
theorem tp20 : roundsJ Tryz.prog CM 60 71 tbody tsp1 tspe 12 thd20 = some thd21 := by kernel_rfl
theorem tp21 : roundsJ Tryz.prog CM 60 71 tbody tsp1 tspe 12 thd21 = some thd22 := by kernel_rfl
theorem tp22 : roundsJ Tryz.prog CM 60 71 tbody tsp1 tspe 12 thd22 = some thd23 := by kernel_rfl
theorem tp23 : roundsJ Tryz.prog CM 60 71 tbody tsp1 tspe 12 thd23 = some thd24 := by kernel_rfl
theorem tp24 : roundsJ Tryz.prog CM 60 71 tbody tsp1 tspe 12 thd24 = some thd25 := by kernel_rfl
end Go.Ax
