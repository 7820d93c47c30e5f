import Derived.Test.YtnggdopkcjefjaaGreatDoorDx
set_option maxRecDepth 1000000
set_option maxHeartbeats 4000000
namespace Go.Ax
open Go Go.Proofs
noncomputable def T7 : Tpl where
  bits := 15
  next := 11025
  args := []
  pre := []
  fpre := []
  val := (.bool true)
  post := []
  fpost := []
  next' := 16476
theorem fine7 : T7.fine = true := by kernel_rfl
theorem trun7 (t : TypeId) : tplOk T7 ((jRunN CX1 200).1 13 T7.args (T7.start row0 t)) = true := by kernel_rfl
theorem good7 : TplGood Tryz.prog row0 13 T7 := ⟨fine7, CX1, 200, cx1_ok, trun7⟩
end Go.Ax

