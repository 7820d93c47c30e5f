import Derived.Test.YtfnngiakmmakfaaGreatDoorDy
set_option maxRecDepth 1000000
set_option maxHeartbeats 4000000
namespace Go.Ax
open Go Go.Proofs
noncomputable def insX3 : List (Nat × Con) := (74, .fn (tplsF lows [T0, T17])) :: (63, .fn (tplsF lows [T1, T2, T3, T4, T5, T11, T12, T13])) :: (31, .fn (tplsF lows [T6, T14])) :: (45, .fn (tplsF lows [T9, T18])) :: (32, .fn (tplsF lows [T10])) :: (20, .fn (tplsF lows [T16])) :: (11, .fn (tplsF lows [T7, T15])) :: (15, .fn (tplsF lows [T8])) :: (28, .fn (tplsF lows [T19])) :: insTM
noncomputable def CX3 : Cfg := { CB with ext := lookN extT, insert := lookN insX3 }
theorem cx3_insert : InsOk Tryz.prog CX3 insX3 := by
  unfold insX3
  exact InsOk.tpl (good_cons good0 (good_cons good17 good_nil)) (InsOk.tpl (good_cons good1 (good_cons good2 (good_cons good3 (good_cons good4 (good_cons good5 (good_cons good11 (good_cons good12 (good_cons good13 good_nil)))))))) (InsOk.tpl (good_cons good6 (good_cons good14 good_nil)) (InsOk.tpl (good_cons good9 (good_cons good18 good_nil)) (InsOk.tpl (good_cons good10 good_nil) (InsOk.tpl (good_cons good16 good_nil) (InsOk.tpl (good_cons good7 (good_cons good15 good_nil)) (InsOk.tpl (good_cons good8 good_nil) (InsOk.tpl (good_cons good19 good_nil) (InsOk.to (C := CM) (fun f t h => cm_insert f t h) rfl)))))))))
theorem cx3_ok : CfgOk CX3 Tryz.prog := cfg_ok (ext := lookN extT) (ins := lookN insX3) rfl (fun f t h => cx3_insert f t h) (fun f e h base ρ s s' w args cargs v hr ha hv => cc_ok.ext f e h base ρ s s' w args cargs v hr ha hv)
end Go.Ax

