import Derived.Test.YtaplfdajjdbomaaGreatDoorEa
set_option maxRecDepth 1000000
set_option maxHeartbeats 4000000
namespace Go.Ax
open Go Go.Proofs
noncomputable def alE:List (Nat × Con):=(20,.fn (OB OT [T0,T6]))::(21,.fn (OB OT [T1,T2,T3,T4]))::(23,.fn (OB OT [T5]))::(5,.fn (OB OT [T7]))::ae3
noncomputable def CX2:Cfg:={ CB with ext:=eH alb,insert:=eH alE }
theorem adY:dI Tryz.prog CX2 alE:=by
 unfold alE
 exact dI.tpl (jf att (jf atZ yu)) (dI.tpl (jf good1 (jf asg (jf aro (jf ar1 yu)))) (dI.tpl (jf atc yu) (dI.tpl (jf awf yu) (dI.to (C:=CM) (fun f t h=>NC f t h) rfl))))
theorem arD:dS CX2 Tryz.prog:=xq (ext:=eH alb) (ins:=eH alE) rfl (fun f t h=>adY f t h) (fun f e h base ρ s s' w args aW v hr ha hv=>aeD.ext f e h base ρ s s' w args aW v hr ha hv)
end Go.Ax
