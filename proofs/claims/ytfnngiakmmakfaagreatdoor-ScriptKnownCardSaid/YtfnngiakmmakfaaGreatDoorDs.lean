import Derived.Test.YtfnngiakmmakfaaGreatDoorDp
set_option maxRecDepth 1000000
set_option maxHeartbeats 4000000
namespace Go.Ax
open Go Go.Proofs
noncomputable def T7 : Tpl where
  bits := 15
  next := 22794
  args := [(nP 22743 0)]
  pre := [(22747, .row [(nW 0), (nW 0)] 22 22747), (22730, .row [(nI 100), (nI 100), (nI 10), (nI 8), (nI 7), (nI 8), (nI 20), (nW 50000000), (nW 3), (nI 50), (nW 100000000), (nI 1), (.pointer none), (.pointer none), (.pointer none), (.pointer none), (.pointer none), (.pointer none), (.pointer none), (.pointer none), (.pointer none), (.pointer none), (.pointer none), (.pointer none), (.pointer none), (.pointer none), (.pointer none), (.pointer none), (.pointer none), (.pointer none), (.pointer none), (.pointer none), (.pointer none), (.pointer none), (.pointer none), (.pointer none), (.pointer none), (.pointer none), (.pointer none), (.pointer none), (.pointer none), (.pointer none), (.pointer none), (.pointer none)] 229 0), (22727, .row [(nW 100), (nW 100)] 22 22727), (22728, .row [(nI 100), (nI 100), (nI 10), (nI 8), (nI 7), (nI 8), (nI 20), (nW 50000000), (nW 3), (nI 50), (nW 100000000), (nI 1), (nS 22727 0 2), (nW 0), (nW 0), (nW 0), (nW 0), (.slice none 0 0), (.slice none 0 0), (.slice none 0 0), (.slice none 0 0), (.slice none 0 0), (.bool true)] 223 0), (22743, .row [(nP 22728 0), (nP 22730 0), (.slice none 0 0), (nS 22747 0 2), (.slice none 0 0)] 162 0)]
  fpre := [(22727, [22727]), (22747, [22747])]
  val := (.agg ⟨[(nB 171), (nB 237), (nB 94), (nB 30), (nB 156), (nB 237), (nB 129), (nB 185), (nB 253), (nB 144), (nB 240), (nB 197), (nB 164), (nB 105), (nB 115), (nB 241), (nB 210), (nB 225), (nB 193), (nB 4), (nB 232), (nB 145), (nB 50), (nB 160), (nB 194), (nB 241), (nB 222), (nB 161), (nB 44), (nB 243), (nB 94), (nB 119)]⟩)
  post := [(22743, .row [(nP 22728 0), (nP 22730 0), (.slice none 0 0), (nS 22747 0 2), (.slice none 0 0)] 162 0), (22728, .row [(nI 100), (nI 100), (nI 10), (nI 8), (nI 7), (nI 8), (nI 20), (nW 50000000), (nW 3), (nI 50), (nW 100000000), (nI 1), (nS 22727 0 2), (nW 0), (nW 0), (nW 0), (nW 0), (.slice none 0 0), (.slice none 0 0), (.slice none 0 0), (.slice none 0 0), (.slice none 0 0), (.bool true)] 223 0), (22727, .row [(nW 100), (nW 100)] 22 22727), (22730, .row [(nI 100), (nI 100), (nI 10), (nI 8), (nI 7), (nI 8), (nI 20), (nW 50000000), (nW 3), (nI 50), (nW 100000000), (nI 1), (.pointer none), (.pointer none), (.pointer none), (.pointer none), (.pointer none), (.pointer none), (.pointer none), (.pointer none), (.pointer none), (.pointer none), (.pointer none), (.pointer none), (.pointer none), (.pointer none), (.pointer none), (.pointer none), (.pointer none), (.pointer none), (.pointer none), (.pointer none), (.pointer none), (.pointer none), (.pointer none), (.pointer none), (.pointer none), (.pointer none), (.pointer none), (.pointer none), (.pointer none), (.pointer none), (.pointer none), (.pointer none)] 229 0), (22747, .row [(nW 0), (nW 0)] 22 22747)]
  fpost := [(22747, [22747]), (22727, [22727])]
  next' := 24772
theorem fine7 : T7.fine = true := by kernel_rfl
theorem trun7 (t : Nat → TypeId) : tplOk T7 ((jRunN CM 200).1 64 T7.args (T7.start lows t)) = true := by kernel_rfl
theorem good7 : TplGood Tryz.prog lows 64 T7 := ⟨fine7, CM, 200, cm_ok, trun7⟩
end Go.Ax

set_option maxRecDepth 1000000
set_option maxHeartbeats 4000000
namespace Go.Ax
open Go Go.Proofs
noncomputable def T8 : Tpl where
  bits := 15
  next := 25335
  args := [(nP 22743 0)]
  pre := [(25021, .row [(nW 0), (nW 0)] 22 25021), (25018, .row [(nI 100), (nI 100), (nI 10), (nI 8), (nI 7), (nI 8), (nI 20), (nW 50000000), (nW 3), (nI 50), (nW 100000000), (nI 1), (.pointer none), (.pointer none), (.pointer none), (.pointer none), (.pointer none), (.pointer none), (.pointer none), (.pointer none), (.pointer none), (.pointer none), (.pointer none), (.pointer none), (.pointer none), (.pointer none), (.pointer none), (.pointer none), (.pointer none), (.pointer none), (.pointer none), (.pointer none), (.pointer none), (.pointer none), (.pointer none), (.pointer none), (.pointer none), (.pointer none), (.pointer none), (.pointer none), (.pointer none), (.pointer none), (.pointer none), (.pointer none)] 229 0), (25108, .row [(nI 0), (nW 1), (nI 1), (nI 0), (.bool false), (.bool false)] 139 25108), (25314, .row [(nI 0), (nI 0), (nI 1), (.int .i64 (Int.negSucc 0)), (nI 0), (nW 50)] 330 25314), (25282, .row [(nI 0), (nI 1), (.int .i64 (Int.negSucc 0)), (nI 0), (nW 50), (nW 50)] 327 25282), (25152, .row [(nW 50), (nW 100)] 22 25152), (25008, .row [(nI 100), (nI 100), (nI 10), (nI 8), (nI 7), (nI 8), (nI 20), (nW 50000000), (nW 3), (nI 50), (nW 100000000), (nI 1), (nS 25152 0 2), (nW 50), (nW 0), (nW 0), (nW 0), (nS 25282 0 1), (nS 25314 0 1), (.slice none 0 0), (.slice none 0 0), (nS 25108 0 1), (.bool true)] 223 0), (22743, .row [(nP 25008 0), (nP 25018 0), (.slice none 0 0), (nS 25021 0 2), (.slice none 0 0)] 162 0)]
  fpre := [(25152, [25152]), (25282, [25282]), (25314, [25314]), (25108, [25108]), (25021, [25021])]
  val := (.agg ⟨[(nB 183), (nB 236), (nB 27), (nB 42), (nB 140), (nB 60), (nB 5), (nB 219), (nB 198), (nB 57), (nB 155), (nB 132), (nB 241), (nB 155), (nB 202), (nB 250), (nB 180), (nB 57), (nB 170), (nB 231), (nB 142), (nB 157), (nB 171), (nB 156), (nB 247), (nB 145), (nB 78), (nB 225), (nB 206), (nB 167), (nB 89), (nB 228)]⟩)
  post := [(22743, .row [(nP 25008 0), (nP 25018 0), (.slice none 0 0), (nS 25021 0 2), (.slice none 0 0)] 162 0), (25008, .row [(nI 100), (nI 100), (nI 10), (nI 8), (nI 7), (nI 8), (nI 20), (nW 50000000), (nW 3), (nI 50), (nW 100000000), (nI 1), (nS 25152 0 2), (nW 50), (nW 0), (nW 0), (nW 0), (nS 25282 0 1), (nS 25314 0 1), (.slice none 0 0), (.slice none 0 0), (nS 25108 0 1), (.bool true)] 223 0), (25152, .row [(nW 50), (nW 100)] 22 25152), (25282, .row [(nI 0), (nI 1), (.int .i64 (Int.negSucc 0)), (nI 0), (nW 50), (nW 50)] 327 25282), (25314, .row [(nI 0), (nI 0), (nI 1), (.int .i64 (Int.negSucc 0)), (nI 0), (nW 50)] 330 25314), (25108, .row [(nI 0), (nW 1), (nI 1), (nI 0), (.bool false), (.bool false)] 139 25108), (25018, .row [(nI 100), (nI 100), (nI 10), (nI 8), (nI 7), (nI 8), (nI 20), (nW 50000000), (nW 3), (nI 50), (nW 100000000), (nI 1), (.pointer none), (.pointer none), (.pointer none), (.pointer none), (.pointer none), (.pointer none), (.pointer none), (.pointer none), (.pointer none), (.pointer none), (.pointer none), (.pointer none), (.pointer none), (.pointer none), (.pointer none), (.pointer none), (.pointer none), (.pointer none), (.pointer none), (.pointer none), (.pointer none), (.pointer none), (.pointer none), (.pointer none), (.pointer none), (.pointer none), (.pointer none), (.pointer none), (.pointer none), (.pointer none), (.pointer none), (.pointer none)] 229 0), (25021, .row [(nW 0), (nW 0)] 22 25021)]
  fpost := [(25021, [25021]), (25108, [25108]), (25314, [25314]), (25282, [25282]), (25152, [25152])]
  next' := 28097
theorem fine8 : T8.fine = true := by kernel_rfl
theorem trun8 (t : Nat → TypeId) : tplOk T8 ((jRunN CM 200).1 64 T8.args (T8.start lows t)) = true := by kernel_rfl
theorem good8 : TplGood Tryz.prog lows 64 T8 := ⟨fine8, CM, 200, cm_ok, trun8⟩
end Go.Ax

set_option maxRecDepth 1000000
set_option maxHeartbeats 4000000
namespace Go.Ax
open Go Go.Proofs
noncomputable def T9 : Tpl where
  bits := 16
  next := 31704
  args := [(nP 22743 0)]
  pre := [(31161, .row [(nW 0), (nW 0)] 22 31161), (31158, .row [(nI 100), (nI 100), (nI 10), (nI 8), (nI 7), (nI 8), (nI 20), (nW 50000000), (nW 3), (nI 50), (nW 100000000), (nI 1), (.pointer none), (.pointer none), (.pointer none), (.pointer none), (.pointer none), (.pointer none), (.pointer none), (.pointer none), (.pointer none), (.pointer none), (.pointer none), (.pointer none), (.pointer none), (.pointer none), (.pointer none), (.pointer none), (.pointer none), (.pointer none), (.pointer none), (.pointer none), (.pointer none), (.pointer none), (.pointer none), (.pointer none), (.pointer none), (.pointer none), (.pointer none), (.pointer none), (.pointer none), (.pointer none), (.pointer none), (.pointer none)] 229 0), (31147, .row [(nI 0), (nW 1), (nI 1), (nI 0), (.bool false), (.bool false)] 139 31147), (31688, .row [(nI 0), (nI 0), (nI 1), (.int .i64 (Int.negSucc 0)), (nI 0), (nW 50), (nI 1), (nI 0), (nI 1), (.int .i64 (Int.negSucc 0)), (nI 0), (nW 30)] 330 31427), (31425, .row [(nI 0), (nI 1), (.int .i64 (Int.negSucc 0)), (nI 0), (nW 80), (nW 80)] 327 31425), (31271, .row [(nW 50), (nW 70)] 22 31271), (31148, .row [(nI 100), (nI 100), (nI 10), (nI 8), (nI 7), (nI 8), (nI 20), (nW 50000000), (nW 3), (nI 50), (nW 100000000), (nI 1), (nS 31271 0 2), (nW 80), (nW 0), (nW 0), (nW 0), (nS 31425 0 1), (nS 31688 0 2), (.slice none 0 0), (.slice none 0 0), (nS 31147 0 1), (.bool true)] 223 0), (22743, .row [(nP 31148 0), (nP 31158 0), (.slice none 0 0), (nS 31161 0 2), (.slice none 0 0)] 162 0)]
  fpre := [(31271, [31271]), (31425, [31425]), (31427, [31688]), (31147, [31147]), (31161, [31161])]
  val := (.agg ⟨[(nB 127), (nB 166), (nB 60), (nB 252), (nB 117), (nB 3), (nB 203), (nB 25), (nB 21), (nB 8), (nB 2), (nB 94), (nB 144), (nB 22), (nB 168), (nB 246), (nB 67), (nB 88), (nB 218), (nB 110), (nB 155), (nB 73), (nB 201), (nB 101), (nB 197), (nB 124), (nB 48), (nB 147), (nB 100), (nB 191), (nB 171), (nB 217)]⟩)
  post := [(22743, .row [(nP 31148 0), (nP 31158 0), (.slice none 0 0), (nS 31161 0 2), (.slice none 0 0)] 162 0), (31148, .row [(nI 100), (nI 100), (nI 10), (nI 8), (nI 7), (nI 8), (nI 20), (nW 50000000), (nW 3), (nI 50), (nW 100000000), (nI 1), (nS 31271 0 2), (nW 80), (nW 0), (nW 0), (nW 0), (nS 31425 0 1), (nS 31688 0 2), (.slice none 0 0), (.slice none 0 0), (nS 31147 0 1), (.bool true)] 223 0), (31271, .row [(nW 50), (nW 70)] 22 31271), (31425, .row [(nI 0), (nI 1), (.int .i64 (Int.negSucc 0)), (nI 0), (nW 80), (nW 80)] 327 31425), (31688, .row [(nI 0), (nI 0), (nI 1), (.int .i64 (Int.negSucc 0)), (nI 0), (nW 50), (nI 1), (nI 0), (nI 1), (.int .i64 (Int.negSucc 0)), (nI 0), (nW 30)] 330 31427), (31147, .row [(nI 0), (nW 1), (nI 1), (nI 0), (.bool false), (.bool false)] 139 31147), (31158, .row [(nI 100), (nI 100), (nI 10), (nI 8), (nI 7), (nI 8), (nI 20), (nW 50000000), (nW 3), (nI 50), (nW 100000000), (nI 1), (.pointer none), (.pointer none), (.pointer none), (.pointer none), (.pointer none), (.pointer none), (.pointer none), (.pointer none), (.pointer none), (.pointer none), (.pointer none), (.pointer none), (.pointer none), (.pointer none), (.pointer none), (.pointer none), (.pointer none), (.pointer none), (.pointer none), (.pointer none), (.pointer none), (.pointer none), (.pointer none), (.pointer none), (.pointer none), (.pointer none), (.pointer none), (.pointer none), (.pointer none), (.pointer none), (.pointer none), (.pointer none)] 229 0), (31161, .row [(nW 0), (nW 0)] 22 31161)]
  fpost := [(31161, [31161]), (31147, [31147]), (31427, [31688]), (31425, [31425]), (31271, [31271])]
  next' := 34638
theorem fine9 : T9.fine = true := by kernel_rfl
theorem trun9 (t : Nat → TypeId) : tplOk T9 ((jRunN CM 200).1 64 T9.args (T9.start lows t)) = true := by kernel_rfl
theorem good9 : TplGood Tryz.prog lows 64 T9 := ⟨fine9, CM, 200, cm_ok, trun9⟩
end Go.Ax

