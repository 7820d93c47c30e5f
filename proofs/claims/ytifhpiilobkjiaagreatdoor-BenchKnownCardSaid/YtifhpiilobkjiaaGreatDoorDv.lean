import Derived.Test.YtifhpiilobkjiaaGreatDoorDt
import Derived.Test.YtifhpiilobkjiaaGreatDoorDu
set_option maxRecDepth 1000000
set_option maxHeartbeats 4000000
namespace Go.Ax
open Go Go.Proofs
noncomputable def insX1 : List (Nat × Con) := (8, .fn (tplsF lows [T0, T2, T3, T5])) :: (9, .fn (tplsF lows [T4])) :: insTR
noncomputable def CX1 : Cfg := { CB with ext := lookN extT, insert := lookN insX1 }
theorem cx1_insert : InsOk Tryz.prog CX1 insX1 := by
  unfold insX1
  exact InsOk.tpl (good_cons good0 (good_cons good2 (good_cons good3 (good_cons good5 good_nil)))) (InsOk.tpl (good_cons good4 good_nil) (InsOk.to (C := CR) (fun f t h => cr_insert f t h) rfl))
theorem cx1_ok : CfgOk CX1 Tryz.prog := cfg_ok (ext := lookN extT) (ins := lookN insX1) rfl (fun f t h => cx1_insert f t h) (fun f e h base ρ s s' w args cargs v hr ha hv => cc_ok.ext f e h base ρ s s' w args cargs v hr ha hv)
end Go.Ax

