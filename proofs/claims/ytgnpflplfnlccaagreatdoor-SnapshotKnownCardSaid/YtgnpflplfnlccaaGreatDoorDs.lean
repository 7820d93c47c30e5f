import Derived.Test.YtgnpflplfnlccaaGreatDoorDp
set_option maxRecDepth 1000000
set_option maxHeartbeats 4000000
namespace Go.Ax
open Go Go.Proofs
noncomputable def T2 : Tpl where
  bits := 15
  next := 9844
  args := [(.agg ⟨[(nI 100), (nI 100), (nI 10), (nI 8), (nI 7), (nI 8), (nI 20), (nW 50000000), (nW 3), (nI 50), (nW 100000000), (nI 1), (nS 5262 0 2), (nW 0), (nW 0), (nW 0), (nW 0), (.slice none 0 0), (.slice none 0 0), (.slice none 0 0), (.slice none 0 0), (.slice none 0 0), (.slice none 0 0), (nS 5264 0 2), (.slice none 0 0), (.slice none 0 0), (.slice none 0 0)]⟩), (.agg ⟨[(nI 100), (nI 100), (nI 10), (nI 8), (nI 7), (nI 8), (nI 20), (nW 50000000), (nW 3), (nI 50), (nW 100000000), (nI 1), (nS 5262 0 2), (nW 0), (nW 0), (nW 0), (nW 0), (.slice none 0 0), (.slice none 0 0), (.slice none 0 0), (.slice none 0 0), (.slice none 0 0), (.slice none 0 0), (nS 5264 0 2), (.slice none 0 0), (.slice none 0 0), (.slice none 0 0)]⟩)]
  pre := [(5264, .row [(nW 0), (nW 0)] 26 5264), (5262, .row [(nW 100), (nW 100)] 26 5262)]
  fpre := [(5262, [5262]), (5264, [5264])]
  val := (.tuple ⟨[(.slice none 0 0), (nI 0)]⟩)
  post := [(5262, .row [(nW 100), (nW 100)] 26 5262), (5264, .row [(nW 0), (nW 0)] 26 5264)]
  fpost := [(5264, [5264]), (5262, [5262])]
  next' := 11828
theorem fine2 : T2.fine = true := by kernel_rfl
theorem trun2 (t : TypeId) : tplOk T2 ((jRunN CM 200).1 9 T2.args (T2.start row0 t)) = true := by kernel_rfl
theorem good2 : TplGood Tryz.prog row0 9 T2 := ⟨fine2, CM, 200, cm_ok, trun2⟩
end Go.Ax

