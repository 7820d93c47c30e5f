import Derived.Test.YtifhpiilobkjiaaGreatDoorDw
set_option maxRecDepth 1000000
set_option maxHeartbeats 4000000
namespace Go.Ax
open Go Go.Proofs
noncomputable def insX2 : List (Nat × Con) := (8, .fn (tplsF lows [T0, T2, T3, T5])) :: (9, .fn (tplsF lows [T4])) :: (7, .fn (tplsF lows [T1, T6])) :: insTR
noncomputable def CX2 : Cfg := { CB with ext := lookN extT, insert := lookN insX2 }
theorem cx2_insert : InsOk Tryz.prog CX2 insX2 := by
  unfold insX2
  exact InsOk.tpl (good_cons good0 (good_cons good2 (good_cons good3 (good_cons good5 good_nil)))) (InsOk.tpl (good_cons good4 good_nil) (InsOk.tpl (good_cons good1 (good_cons good6 good_nil)) (InsOk.to (C := CR) (fun f t h => cr_insert f t h) rfl)))
theorem cx2_ok : CfgOk CX2 Tryz.prog := cfg_ok (ext := lookN extT) (ins := lookN insX2) rfl (fun f t h => cx2_insert f t h) (fun f e h base ρ s s' w args cargs v hr ha hv => cc_ok.ext f e h base ρ s s' w args cargs v hr ha hv)
end Go.Ax

