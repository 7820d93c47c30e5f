import Derived.Test.YthghfgcpdblgcaaGreatDoorDo
set_option maxRecDepth 1000000
set_option maxHeartbeats 0
namespace Go.Ax
open Go Go.Proofs
theorem tp31 : roundsJ Tryz.prog CM 60 71 tbody tsp1 tspe 12 thd31 = some thd32 := by kernel_rfl
theorem tp32 : roundsJ Tryz.prog CM 60 71 tbody tsp1 tspe 12 thd32 = some thd33 := by kernel_rfl
theorem tp33 : roundsJ Tryz.prog CM 60 71 tbody tsp1 tspe 12 thd33 = some thd34 := by kernel_rfl
theorem tp34 : roundsJ Tryz.prog CM 60 71 tbody tsp1 tspe 12 thd34 = some thd35 := by kernel_rfl
theorem tp35 : roundsJ Tryz.prog CM 60 71 tbody tsp1 tspe 12 thd35 = some thd36 := by kernel_rfl
theorem tp36 : roundsJ Tryz.prog CM 60 71 tbody tsp1 tspe 12 thd36 = some thd37 := by kernel_rfl
end Go.Ax
