import Derived.Test.YtgnpflplfnlccaaGreatDoorDw
set_option maxRecDepth 1000000
set_option maxHeartbeats 4000000
namespace Go.Ax
open Go Go.Proofs
noncomputable def T6 : Tpl where
  bits := 15
  next := 16546
  args := []
  pre := []
  fpre := []
  val := (.bool true)
  post := []
  fpost := []
  next' := 26084
theorem fine6 : T6.fine = true := by kernel_rfl
theorem trun6 (t : TypeId) : tplOk T6 ((jRunN CX1 200).1 17 T6.args (T6.start row0 t)) = true := by kernel_rfl
theorem good6 : TplGood Tryz.prog row0 17 T6 := ⟨fine6, CX1, 200, cx1_ok, trun6⟩
end Go.Ax

