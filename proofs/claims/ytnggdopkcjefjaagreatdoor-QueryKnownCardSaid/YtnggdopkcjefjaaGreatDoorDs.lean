import Derived.Test.YtnggdopkcjefjaaGreatDoorDp
set_option maxRecDepth 1000000
set_option maxHeartbeats 4000000
namespace Go.Ax
open Go Go.Proofs
noncomputable def T2 : Tpl where
  bits := 15
  next := 3495
  args := [(.agg ⟨[(nI 4), (nI 4), (nI 2), (nI 3), (nI 7), (nI 8), (nI 2), (nW 100000000), (nW 0), (nI 50), (nW 100000000), (nI 2), (nS 1980 0 2), (nW 80), (nW 0), (nW 0), (nW 0), (nS 1982 0 1), (nS 1984 0 2), (.slice none 0 0), (.slice none 0 0), (nS 1986 0 1), (.slice none 0 0), (nS 1988 0 2), (.slice none 0 0), (.slice none 0 0), (.slice none 0 0)]⟩), (.agg ⟨[(nI 2), (nI 1), (nI 0), (nI 0), (nI 0)]⟩), (.slice (some ⟨3494, 0, none⟩) 6 6)]
  pre := [(3494, .row [(nW 0), (nW 1), (nW 0), (nW 0), (nW 30), (nW 30)] 22 0), (1988, .row [(nW 0), (nW 0)] 22 1988), (1986, .row [(nI 0), (nW 1), (nI 2), (nI 0), (.bool false), (.bool false)] 225 1986), (1984, .row [(nI 0), (nI 0), (nI 1), (.int .i64 (Int.negSucc 0)), (nI 0), (nW 50), (nI 1), (nI 0), (nI 1), (.int .i64 (Int.negSucc 0)), (nI 0), (nW 30)] 213 1984), (1982, .row [(nI 0), (nI 1), (.int .i64 (Int.negSucc 0)), (nI 0), (nW 80), (nW 80)] 234 1982), (1980, .row [(nW 50), (nW 70)] 22 1980)]
  fpre := [(1980, [1980]), (1982, [1982]), (1984, [1984]), (1986, [1986]), (1988, [1988])]
  val := (.bool true)
  post := [(1980, .row [(nW 50), (nW 70)] 22 1980), (1982, .row [(nI 0), (nI 1), (.int .i64 (Int.negSucc 0)), (nI 0), (nW 80), (nW 80)] 234 1982), (1984, .row [(nI 0), (nI 0), (nI 1), (.int .i64 (Int.negSucc 0)), (nI 0), (nW 50), (nI 1), (nI 0), (nI 1), (.int .i64 (Int.negSucc 0)), (nI 0), (nW 30)] 213 1984), (1986, .row [(nI 0), (nW 1), (nI 2), (nI 0), (.bool false), (.bool false)] 225 1986), (1988, .row [(nW 0), (nW 0)] 22 1988), (3494, .row [(nW 0), (nW 1), (nW 0), (nW 0), (nW 30), (nW 30)] 22 0)]
  fpost := [(1988, [1988]), (1986, [1986]), (1984, [1984]), (1982, [1982]), (1980, [1980])]
  next' := 4369
theorem fine2 : T2.fine = true := by kernel_rfl
theorem trun2 (t : TypeId) : tplOk T2 ((jRunN CM 200).1 5 T2.args (T2.start row0 t)) = true := by kernel_rfl
theorem good2 : TplGood Tryz.prog row0 5 T2 := ⟨fine2, CM, 200, cm_ok, trun2⟩
end Go.Ax

