import Derived.Test.YtgnpflplfnlccaaGreatDoorDq
import Derived.Test.YtgnpflplfnlccaaGreatDoorDr
import Derived.Test.YtgnpflplfnlccaaGreatDoorDs
import Derived.Test.YtgnpflplfnlccaaGreatDoorDt
import Derived.Test.YtgnpflplfnlccaaGreatDoorDu
import Derived.Test.YtgnpflplfnlccaaGreatDoorDv
set_option maxRecDepth 1000000
set_option maxHeartbeats 4000000
namespace Go.Ax
open Go Go.Proofs
noncomputable def insX1 : List (Nat × Con) := (4, .fn (tplsF row0 [T0, T5])) :: (9, .fn (tplsF row0 [T1, T2])) :: (14, .fn (tplsF row0 [T3, T4])) :: insTM
noncomputable def CX1 : Cfg := { CB with ext := lookN extT, insert := lookN insX1 }
theorem cx1_insert : InsOk Tryz.prog CX1 insX1 := by
  unfold insX1
  exact InsOk.tpl (good_cons good0 (good_cons good5 good_nil)) (InsOk.tpl (good_cons good1 (good_cons good2 good_nil)) (InsOk.tpl (good_cons good3 (good_cons good4 good_nil)) (InsOk.to (C := CM) (fun f t h => cm_insert f t h) rfl)))
theorem cx1_ok : CfgOk CX1 Tryz.prog := cfg_ok (ext := lookN extT) (ins := lookN insX1) rfl (fun f t h => cx1_insert f t h) (fun f e h base ρ s s' w args cargs v hr ha hv => cc_ok.ext f e h base ρ s s' w args cargs v hr ha hv)
end Go.Ax

