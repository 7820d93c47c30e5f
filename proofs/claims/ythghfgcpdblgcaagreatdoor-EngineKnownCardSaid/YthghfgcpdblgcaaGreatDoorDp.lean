import Derived.Test.YthghfgcpdblgcaaGreatDoorDo
set_option maxRecDepth 1000000
set_option maxHeartbeats 0
namespace Go.Ax
open Go Go.Proofs
theorem tp0 : roundJ Tryz.prog CM 60 71 tbody tsp0 tsp1 tspe thd0 = some (.normal, thd1) := by kernel_rfl
theorem tp1 : roundsJ Tryz.prog CM 60 71 tbody tsp1 tspe 1 thd1 = some thd2 := by kernel_rfl
theorem tp2 : roundsJ Tryz.prog CM 60 71 tbody tsp1 tspe 1 thd2 = some thd3 := by kernel_rfl
theorem tp3 : roundsJ Tryz.prog CM 60 71 tbody tsp1 tspe 1 thd3 = some thd4 := by kernel_rfl
theorem tp4 : roundsJ Tryz.prog CM 60 71 tbody tsp1 tspe 1 thd4 = some thd5 := by kernel_rfl
theorem tp5 : roundsJ Tryz.prog CM 60 71 tbody tsp1 tspe 1 thd5 = some thd6 := by kernel_rfl
theorem tp6 : roundsJ Tryz.prog CM 60 71 tbody tsp1 tspe 1 thd6 = some thd7 := by kernel_rfl
theorem tp7 : roundsJ Tryz.prog CM 60 71 tbody tsp1 tspe 1 thd7 = some thd8 := by kernel_rfl
theorem tp8 : roundsJ Tryz.prog CM 60 71 tbody tsp1 tspe 1 thd8 = some thd9 := by kernel_rfl
theorem tp9 : roundsJ Tryz.prog CM 60 71 tbody tsp1 tspe 1 thd9 = some thd10 := by kernel_rfl
theorem tp10 : roundsJ Tryz.prog CM 60 71 tbody tsp1 tspe 1 thd10 = some thd11 := by kernel_rfl
theorem tp11 : roundsJ Tryz.prog CM 60 71 tbody tsp1 tspe 1 thd11 = some thd12 := by kernel_rfl
theorem tp12 : roundsJ Tryz.prog CM 60 71 tbody tsp1 tspe 1 thd12 = some thd13 := by kernel_rfl
theorem tp96 : roundsJ Tryz.prog CM 60 71 tbody tsp1 tspe 1 thd96 = some thd97 := by kernel_rfl
end Go.Ax
