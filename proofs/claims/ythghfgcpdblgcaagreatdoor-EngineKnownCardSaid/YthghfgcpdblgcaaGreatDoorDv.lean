import Derived.Test.YthghfgcpdblgcaaGreatDoorDo
set_option maxRecDepth 1000000
set_option maxHeartbeats 0
namespace Go.Ax
open Go Go.Proofs
theorem tp43 : roundsJ Tryz.prog CM 60 71 tbody tsp1 tspe 12 thd43 = some thd44 := by kernel_rfl
theorem tp44 : roundsJ Tryz.prog CM 60 71 tbody tsp1 tspe 12 thd44 = some thd45 := by kernel_rfl
theorem tp45 : roundsJ Tryz.prog CM 60 71 tbody tsp1 tspe 12 thd45 = some thd46 := by kernel_rfl
theorem tp46 : roundsJ Tryz.prog CM 60 71 tbody tsp1 tspe 12 thd46 = some thd47 := by kernel_rfl
theorem tp47 : roundsJ Tryz.prog CM 60 71 tbody tsp1 tspe 12 thd47 = some thd48 := by kernel_rfl
theorem tp48 : roundsJ Tryz.prog CM 60 71 tbody tsp1 tspe 12 thd48 = some thd49 := by kernel_rfl
end Go.Ax
