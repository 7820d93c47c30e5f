import Derived.Test.YtnggdopkcjefjaaGreatDoorDp
set_option maxRecDepth 1000000
set_option maxHeartbeats 4000000
namespace Go.Ax
open Go Go.Proofs
noncomputable def T6 : Tpl where
  bits := 15
  next := 11025
  args := []
  pre := []
  fpre := []
  val := (.tuple ⟨[(.agg ⟨[(nI 4), (nI 4), (nI 2), (nI 3), (nI 7), (nI 8), (nI 2), (nW 100000000), (nW 0), (nI 50), (nW 100000000), (nI 2), (nS 12941 0 2), (nW 80), (nW 0), (nW 0), (nW 0), (nS 12943 0 1), (nS 12945 0 2), (.slice none 0 0), (.slice none 0 0), (nS 12947 0 1), (.slice none 0 0), (nS 12949 0 2), (.slice none 0 0), (.slice none 0 0), (.slice none 0 0)]⟩), (.bool true)]⟩)
  post := [(12949, .row [(nW 0), (nW 0)] 22 12949), (12947, .row [(nI 0), (nW 1), (nI 2), (nI 0), (.bool false), (.bool false)] 225 12947), (12945, .row [(nI 0), (nI 0), (nI 1), (.int .i64 (Int.negSucc 0)), (nI 0), (nW 50), (nI 1), (nI 0), (nI 1), (.int .i64 (Int.negSucc 0)), (nI 0), (nW 30)] 213 12945), (12943, .row [(nI 0), (nI 1), (.int .i64 (Int.negSucc 0)), (nI 0), (nW 80), (nW 80)] 234 12943), (12941, .row [(nW 50), (nW 70)] 22 12941)]
  fpost := [(12941, [12941]), (12943, [12943]), (12945, [12945]), (12947, [12947]), (12949, [12949])]
  next' := 13654
theorem fine6 : T6.fine = true := by kernel_rfl
theorem trun6 (t : TypeId) : tplOk T6 ((jRunN CM 200).1 4 T6.args (T6.start row0 t)) = true := by kernel_rfl
theorem good6 : TplGood Tryz.prog row0 4 T6 := ⟨fine6, CM, 200, cm_ok, trun6⟩
end Go.Ax

