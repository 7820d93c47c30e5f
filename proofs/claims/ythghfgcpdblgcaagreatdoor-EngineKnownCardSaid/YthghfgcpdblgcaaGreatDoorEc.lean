import Derived.Test.YthghfgcpdblgcaaGreatDoorDo
set_option maxRecDepth 1000000
set_option maxHeartbeats 0
namespace Go.Ax
open Go Go.Proofs
theorem tp85 : roundsJ Tryz.prog CM 60 71 tbody tsp1 tspe 12 thd85 = some thd86 := by kernel_rfl
theorem tp86 : roundsJ Tryz.prog CM 60 71 tbody tsp1 tspe 12 thd86 = some thd87 := by kernel_rfl
theorem tp87 : roundsJ Tryz.prog CM 60 71 tbody tsp1 tspe 12 thd87 = some thd88 := by kernel_rfl
theorem tp88 : roundsJ Tryz.prog CM 60 71 tbody tsp1 tspe 12 thd88 = some thd89 := by kernel_rfl
theorem tp89 : roundsJ Tryz.prog CM 60 71 tbody tsp1 tspe 12 thd89 = some thd90 := by kernel_rfl
theorem tp90 : roundsJ Tryz.prog CM 60 71 tbody tsp1 tspe 12 thd90 = some thd91 := by kernel_rfl
end Go.Ax
