import Derived.Test.YtifhpiilobkjiaaGreatDoorDt
set_option maxRecDepth 1000000
set_option maxHeartbeats 4000000
namespace Go.Ax
open Go Go.Proofs
noncomputable def insX2 : List (Nat × Con) := (8, .fn (tplsF lows [T0])) :: (7, .fn (tplsF lows [T1])) :: insTM
noncomputable def CX2 : Cfg := { CB with ext := lookN extT, insert := lookN insX2 }
theorem cx2_insert : InsOk Tryz.prog CX2 insX2 := by
  unfold insX2
  exact InsOk.tpl (good_cons good0 good_nil) (InsOk.tpl (good_cons good1 good_nil) (InsOk.to (C := CM) (fun f t h => cm_insert f t h) rfl))
theorem cx2_ok : CfgOk CX2 Tryz.prog := cfg_ok (ext := lookN extT) (ins := lookN insX2) rfl (fun f t h => cx2_insert f t h) (fun f e h base ρ s s' w args cargs v hr ha hv => cc_ok.ext f e h base ρ s s' w args cargs v hr ha hv)
end Go.Ax

