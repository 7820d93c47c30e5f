import Derived.Test.YtgpfgjhbiehafaaGreatDoorProg
import Derived.WalkKit
import Derived.KernelRfl
import Derived.Deep.RegionLaw
namespace Go.Ax
open Go Go.RowKit
theorem nX {P:Program}{ops:Array Oper}{o:Oper}{a:Act}{w:World}{K:Act→World→Prop}{Q:Exit→Act→World→Prop}{E:Prop}
  (hg:o.guard=none) (d s:Operand) (dT sT:TypeId) (hop:o.op=Op.call { callee:=Callee.builtin Builtin.copy,args:=#[d,s],argTypes:=#[dT,sT] })
  {vd vs v:Value} {w':World} (hd:a.eval d=vd) (hs:a.eval s=vs) (hrun:(Builtin.copy_ #[dT,sT] o.type #[vd,vs]).run P w = .ok v w') (hK:K (a.put o.dst v) w') :
  if Region.wanted o (yielded ops a.tmps)=true then Oper.wp P o a w K Q else E:=by
 have hw:Region.wanted o (yielded ops a.tmps)=true:=by simp [Region.wanted,hg]
 rw [if_pos hw]
 subst hd hs
 unfold Oper.wp
 simp [execOp,hop,resolve,invoke,builtin,hrun,Result.andThen]
 exact hK
theorem wpList_append_run {P:Program}{ops:Array Oper}{rest:List Oper}{o:Oper}{a:Act}{w:World}{Q:Exit→Act→World→Prop}(hgd:o.guard=none)(s x:Operand)(t1 t2:TypeId)
  (ho:o.op = .call { callee:=.builtin .append,args:=#[s,x],argTypes:=#[t1,t2] }) {vs vx v:Value} {w':World} (hs:a.eval s=vs) (hx:a.eval x=vx)
  (hrun:(Builtin.append_ #[t1,t2] o.type #[vs,vx]).run P w = .ok v w') (h:wpList P ops Q rest (a.put o.dst v) w'):wpList P ops Q (o::rest) a w:=
 wpList_plain hgd fun K hK=>by
  unfold Oper.wp execOp
  simp only [ho,resolve,invoke,builtin,Sem.run_bind,Sem.run_pure,Result.andThen_ok,List.map_toArray,List.map_cons,List.map_nil,hs,hx,hrun]
  exact hK _ _ h
end Go.Ax
