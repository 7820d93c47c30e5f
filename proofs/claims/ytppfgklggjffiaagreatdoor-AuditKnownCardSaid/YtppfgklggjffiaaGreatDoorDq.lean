import Derived.Test.YtppfgklggjffiaaGreatDoorDp
import Derived.Test.YtppfgklggjffiaaGreatDoorDg
set_option maxRecDepth 1000000
namespace Go.Ax
open Go Go.Proofs
noncomputable def insTR : List (Nat × Con) := (18, .fn (recG CM 200 60 [11441, 13827, 16227, 18335, 23068, 27802, 32492, 37279] 18)) :: insTM
noncomputable def CR : Cfg := { CB with ext := lookN extT, insert := lookN insTR }
theorem cr_insert : InsOk Tryz.prog CR insTR := by
  unfold insTR
  exact InsOk.recd cm_ok (InsOk.to (C := CM) (fun f t h => cm_insert f t h) rfl)
theorem cr_ok : CfgOk CR Tryz.prog := cfg_ok (ext := lookN extT) (ins := lookN insTR) rfl (fun f t h => cr_insert f t h) (fun f e h base ρ s s' w args cargs v hr ha hv => cc_ok.ext f e h base ρ s s' w args cargs v hr ha hv)
end Go.Ax

