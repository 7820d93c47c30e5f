import Derived.Test.YtifhpiilobkjiaaGreatDoorDq
import Derived.Test.YtifhpiilobkjiaaGreatDoorDg
set_option maxRecDepth 1000000
namespace Go.Ax
open Go Go.Proofs
noncomputable def insTR : List (Nat × Con) := (181, .fn (recG CM 200 60 [12440] 181)) :: insTM
noncomputable def CR : Cfg := { CB with ext := lookN extT, insert := lookN insTR }
theorem cr_insert : InsOk Tryz.prog CR insTR := by
  unfold insTR
  exact InsOk.recd cm_ok (InsOk.to (C := CM) (fun f t h => cm_insert f t h) rfl)
theorem cr_ok : CfgOk CR Tryz.prog := cfg_ok (ext := lookN extT) (ins := lookN insTR) rfl (fun f t h => cr_insert f t h) (fun f e h base ρ s s' w args cargs v hr ha hv => cc_ok.ext f e h base ρ s s' w args cargs v hr ha hv)
end Go.Ax

