import Derived.Test.YtgnpflplfnlccaaGreatDoorDp
set_option maxRecDepth 1000000
set_option maxHeartbeats 4000000
namespace Go.Ax
open Go Go.Proofs
noncomputable def T5 : Tpl where
  bits := 15
  next := 16546
  args := []
  pre := []
  fpre := []
  val := (nS 18677 0 82)
  post := [(18677, .row [(nB 30), (nB 17), (nB 100), (nB 100), (nB 10), (nB 8), (nB 7), (nB 8), (nB 20), (nB 128), (nB 225), (nB 235), (nB 23), (nB 3), (nB 50), (nB 128), (nB 194), (nB 215), (nB 47), (nB 1), (nB 1), (nB 7), (nB 2), (nB 100), (nB 100), (nB 0), (nB 0), (nB 0), (nB 0), (nB 2), (nB 0), (nB 0), (nB 1), (nB 0), (nB 1), (nB 0), (nB 1), (nB 0), (nB 1), (nB 0), (nB 3), (nB 2), (nB 0), (nB 0), (nB 1), (nB 0), (nB 1), (nB 0), (nB 1), (nB 0), (nB 28), (nB 232), (nB 236), (nB 208), (nB 193), (nB 32), (nB 41), (nB 94), (nB 134), (nB 1), (nB 1), (nB 155), (nB 164), (nB 161), (nB 209), (nB 34), (nB 129), (nB 74), (nB 32), (nB 211), (nB 179), (nB 201), (nB 75), (nB 254), (nB 194), (nB 235), (nB 22), (nB 228), (nB 59), (nB 50), (nB 240), (nB 98)] 5 18238)]
  fpost := [(18238, [18677])]
  next' := 21690
theorem fine5 : T5.fine = true := by kernel_rfl
theorem trun5 (t : TypeId) : tplOk T5 ((jRunN CM 200).1 4 T5.args (T5.start row0 t)) = true := by kernel_rfl
theorem good5 : TplGood Tryz.prog row0 4 T5 := ⟨fine5, CM, 200, cm_ok, trun5⟩
end Go.Ax

