import Derived.Test.YtfnngiakmmakfaaGreatDoorDp
set_option maxRecDepth 1000000
set_option maxHeartbeats 4000000
namespace Go.Ax
open Go Go.Proofs
noncomputable def T29 : Tpl where
  bits := 17
  next := 92829
  args := []
  pre := []
  fpre := []
  val := (.bool true)
  post := []
  fpost := []
  next' := 97289
theorem fine29 : T29.fine = true := by kernel_rfl
theorem trun29 (t : Nat → TypeId) : tplOk T29 ((jRunN CM 200).1 12 T29.args (T29.start lows t)) = true := by kernel_rfl
theorem good29 : TplGood Tryz.prog lows 12 T29 := ⟨fine29, CM, 200, cm_ok, trun29⟩
end Go.Ax

