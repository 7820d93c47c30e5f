import Derived.Test.YthghfgcpdblgcaaGreatDoorDo
set_option maxRecDepth 1000000
set_option maxHeartbeats 0
namespace Go.Ax
open Go Go.Proofs
theorem tp67 : roundsJ Tryz.prog CM 60 71 tbody tsp1 tspe 12 thd67 = some thd68 := by kernel_rfl
theorem tp68 : roundsJ Tryz.prog CM 60 71 tbody tsp1 tspe 12 thd68 = some thd69 := by kernel_rfl
theorem tp69 : roundsJ Tryz.prog CM 60 71 tbody tsp1 tspe 12 thd69 = some thd70 := by kernel_rfl
theorem tp70 : roundsJ Tryz.prog CM 60 71 tbody tsp1 tspe 12 thd70 = some thd71 := by kernel_rfl
theorem tp71 : roundsJ Tryz.prog CM 60 71 tbody tsp1 tspe 12 thd71 = some thd72 := by kernel_rfl
theorem tp72 : roundsJ Tryz.prog CM 60 71 tbody tsp1 tspe 12 thd72 = some thd73 := by kernel_rfl
end Go.Ax
