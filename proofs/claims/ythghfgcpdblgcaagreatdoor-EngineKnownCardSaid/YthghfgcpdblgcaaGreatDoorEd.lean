import Derived.Test.YthghfgcpdblgcaaGreatDoorDo
set_option maxRecDepth 1000000
set_option maxHeartbeats 0
namespace Go.Ax
open Go Go.Proofs
theorem tp91 : roundsJ Tryz.prog CM 60 71 tbody tsp1 tspe 12 thd91 = some thd92 := by kernel_rfl
theorem tp92 : roundsJ Tryz.prog CM 60 71 tbody tsp1 tspe 12 thd92 = some thd93 := by kernel_rfl
theorem tp93 : roundsJ Tryz.prog CM 60 71 tbody tsp1 tspe 12 thd93 = some thd94 := by kernel_rfl
theorem tp94 : roundsJ Tryz.prog CM 60 71 tbody tsp1 tspe 12 thd94 = some thd95 := by kernel_rfl
theorem tp95 : roundsJ Tryz.prog CM 60 71 tbody tsp1 tspe 10 thd95 = some thd96 := by kernel_rfl
end Go.Ax
