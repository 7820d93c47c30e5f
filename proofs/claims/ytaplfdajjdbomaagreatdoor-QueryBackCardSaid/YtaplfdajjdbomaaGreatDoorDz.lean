import Derived.Test.YtaplfdajjdbomaaGreatDoorDs
import Derived.Test.YtaplfdajjdbomaaGreatDoorDt
import Derived.Test.YtaplfdajjdbomaaGreatDoorDu
import Derived.Test.YtaplfdajjdbomaaGreatDoorDv
import Derived.Test.YtaplfdajjdbomaaGreatDoorDw
import Derived.Test.YtaplfdajjdbomaaGreatDoorDx
import Derived.Test.YtaplfdajjdbomaaGreatDoorDy
set_option maxRecDepth 1000000
set_option maxHeartbeats 4000000
namespace Go.Ax
open Go Go.Proofs
noncomputable def akI:List (Nat × Con):=(20,.fn (OB OT [T0,T6]))::(21,.fn (OB OT [T1,T2,T3,T4]))::(23,.fn (OB OT [T5]))::ae3
noncomputable def CX1:Cfg:={ CB with ext:=eH alb,insert:=eH akI }
theorem adK:dI Tryz.prog CX1 akI:=by
 unfold akI
 exact dI.tpl (jf att (jf atZ yu)) (dI.tpl (jf good1 (jf asg (jf aro (jf ar1 yu)))) (dI.tpl (jf atc yu) (dI.to (C:=CM) (fun f t h=>NC f t h) rfl)))
theorem arv:dS CX1 Tryz.prog:=xq (ext:=eH alb) (ins:=eH akI) rfl (fun f t h=>adK f t h) (fun f e h base ρ s s' w args aW v hr ha hv=>aeD.ext f e h base ρ s s' w args aW v hr ha hv)
end Go.Ax
