import Derived.Test.YtgnpflplfnlccaaGreatDoorDp
set_option maxRecDepth 1000000
set_option maxHeartbeats 4000000
namespace Go.Ax
open Go Go.Proofs
noncomputable def T1 : Tpl where
  bits := 15
  next := 7858
  args := [(.agg ⟨[(nI 100), (nI 100), (nI 10), (nI 8), (nI 7), (nI 8), (nI 20), (nW 50000000), (nW 3), (nI 50), (nW 100000000), (nI 1), (nS 5262 0 2), (nW 0), (nW 0), (nW 0), (nW 0), (.slice none 0 0), (.slice none 0 0), (.slice none 0 0), (.slice none 0 0), (.slice none 0 0), (.slice none 0 0), (nS 5264 0 2), (.slice none 0 0), (.slice none 0 0), (.slice none 0 0)]⟩), (.agg ⟨[(nI 100), (nI 100), (nI 10), (nI 8), (nI 7), (nI 8), (nI 20), (nW 50000000), (nW 3), (nI 50), (nW 100000000), (nI 2), (nS 7151 0 2), (nW 0), (nW 0), (nW 0), (nW 0), (.slice none 0 0), (.slice none 0 0), (.slice none 0 0), (.slice none 0 0), (.slice none 0 0), (.slice none 0 0), (nS 7153 0 2), (.slice none 0 0), (.slice none 0 0), (.slice none 0 0)]⟩)]
  pre := [(7153, .row [(nW 0), (nW 0)] 26 7153), (7151, .row [(nW 100), (nW 100)] 26 7151), (5264, .row [(nW 0), (nW 0)] 26 5264), (5262, .row [(nW 100), (nW 100)] 26 5262)]
  fpre := [(5262, [5262]), (5264, [5264]), (7151, [7151]), (7153, [7153])]
  val := (.tuple ⟨[(nS 9733 0 1), (nI 0)]⟩)
  post := [(9733, .row [(nI 1)] 3 9733), (5262, .row [(nW 100), (nW 100)] 26 5262), (5264, .row [(nW 0), (nW 0)] 26 5264), (7151, .row [(nW 100), (nW 100)] 26 7151), (7153, .row [(nW 0), (nW 0)] 26 7153)]
  fpost := [(7153, [7153]), (7151, [7151]), (5264, [5264]), (5262, [5262]), (9733, [9733])]
  next' := 9844
theorem fine1 : T1.fine = true := by kernel_rfl
theorem trun1 (t : TypeId) : tplOk T1 ((jRunN CM 200).1 9 T1.args (T1.start row0 t)) = true := by kernel_rfl
theorem good1 : TplGood Tryz.prog row0 9 T1 := ⟨fine1, CM, 200, cm_ok, trun1⟩
end Go.Ax

