import Derived.Test.YthghfgcpdblgcaaGreatDoorDo
set_option maxRecDepth 1000000
set_option maxHeartbeats 0
namespace Go.Ax
open Go Go.Proofs
theorem tp55 : roundsJ Tryz.prog CM 60 71 tbody tsp1 tspe 12 thd55 = some thd56 := by kernel_rfl
theorem tp56 : roundsJ Tryz.prog CM 60 71 tbody tsp1 tspe 12 thd56 = some thd57 := by kernel_rfl
theorem tp57 : roundsJ Tryz.prog CM 60 71 tbody tsp1 tspe 12 thd57 = some thd58 := by kernel_rfl
theorem tp58 : roundsJ Tryz.prog CM 60 71 tbody tsp1 tspe 12 thd58 = some thd59 := by kernel_rfl
theorem tp59 : roundsJ Tryz.prog CM 60 71 tbody tsp1 tspe 12 thd59 = some thd60 := by kernel_rfl
theorem tp60 : roundsJ Tryz.prog CM 60 71 tbody tsp1 tspe 12 thd60 = some thd61 := by kernel_rfl
end Go.Ax
