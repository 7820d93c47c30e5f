import Derived.Test.YtfnngiakmmakfaaGreatDoorDq
import Derived.Test.YtfnngiakmmakfaaGreatDoorDr
import Derived.Test.YtfnngiakmmakfaaGreatDoorDs
import Derived.Test.YtfnngiakmmakfaaGreatDoorDt
import Derived.Test.YtfnngiakmmakfaaGreatDoorDu
import Derived.Test.YtfnngiakmmakfaaGreatDoorDv
import Derived.Test.YtfnngiakmmakfaaGreatDoorDw
import Derived.Test.YtfnngiakmmakfaaGreatDoorDx
import Derived.Test.YtfnngiakmmakfaaGreatDoorDy
set_option maxRecDepth 1000000
set_option maxHeartbeats 4000000
namespace Go.Ax
open Go Go.Proofs
noncomputable def insX1 : List (Nat × Con) := (7, .fn (tplsF lows [T0])) :: (64, .fn (tplsF lows [T1, T2, T3, T4, T5, T7, T8, T9, T10, T11, T13, T14, T15, T17, T18, T19, T20, T21, T23, T24, T25, T26, T27])) :: (12, .fn (tplsF lows [T29])) :: insTM
noncomputable def CX1 : Cfg := { CB with ext := lookN extT, insert := lookN insX1 }
theorem cx1_insert : InsOk Tryz.prog CX1 insX1 := by
  unfold insX1
  exact InsOk.tpl (good_cons good0 good_nil) (InsOk.tpl (good_cons good1 (good_cons good2 (good_cons good3 (good_cons good4 (good_cons good5 (good_cons good7 (good_cons good8 (good_cons good9 (good_cons good10 (good_cons good11 (good_cons good13 (good_cons good14 (good_cons good15 (good_cons good17 (good_cons good18 (good_cons good19 (good_cons good20 (good_cons good21 (good_cons good23 (good_cons good24 (good_cons good25 (good_cons good26 (good_cons good27 good_nil))))))))))))))))))))))) (InsOk.tpl (good_cons good29 good_nil) (InsOk.to (C := CM) (fun f t h => cm_insert f t h) rfl)))
theorem cx1_ok : CfgOk CX1 Tryz.prog := cfg_ok (ext := lookN extT) (ins := lookN insX1) rfl (fun f t h => cx1_insert f t h) (fun f e h base ρ s s' w args cargs v hr ha hv => cc_ok.ext f e h base ρ s s' w args cargs v hr ha hv)
end Go.Ax

