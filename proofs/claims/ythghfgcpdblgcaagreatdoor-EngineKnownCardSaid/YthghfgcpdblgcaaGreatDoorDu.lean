import Derived.Test.YthghfgcpdblgcaaGreatDoorDo
set_option maxRecDepth 1000000
set_option maxHeartbeats 0
namespace Go.Ax
open Go Go.Proofs
theorem tp37 : roundsJ Tryz.prog CM 60 71 tbody tsp1 tspe 12 thd37 = some thd38 := by kernel_rfl
theorem tp38 : roundsJ Tryz.prog CM 60 71 tbody tsp1 tspe 12 thd38 = some thd39 := by kernel_rfl
theorem tp39 : roundsJ Tryz.prog CM 60 71 tbody tsp1 tspe 12 thd39 = some thd40 := by kernel_rfl
theorem tp40 : roundsJ Tryz.prog CM 60 71 tbody tsp1 tspe 12 thd40 = some thd41 := by kernel_rfl
theorem tp41 : roundsJ Tryz.prog CM 60 71 tbody tsp1 tspe 12 thd41 = some thd42 := by kernel_rfl
theorem tp42 : roundsJ Tryz.prog CM 60 71 tbody tsp1 tspe 12 thd42 = some thd43 := by kernel_rfl
end Go.Ax
