import Derived.Test.YtfnngiakmmakfaaGreatDoorDp
set_option maxRecDepth 1000000
set_option maxHeartbeats 4000000
namespace Go.Ax
open Go Go.Proofs
noncomputable def T21 : Tpl where
  bits := 17
  next := 70652
  args := [(nP 54706 0)]
  pre := [(66761, .row [(nW 0), (nW 0)] 22 66761), (66758, .row [(nI 100), (nI 100), (nI 10), (nI 8), (nI 7), (nI 8), (nI 20), (nW 50000000), (nW 3), (nI 50), (nW 100000000), (nI 3), (.pointer none), (.pointer none), (.pointer none), (.pointer none), (.pointer none), (.pointer none), (.pointer none), (.pointer none), (.pointer none), (.pointer none), (.pointer none), (.pointer none), (.pointer none), (.pointer none), (.pointer none), (.pointer none), (.pointer none), (.pointer none), (.pointer none), (.pointer none), (.pointer none), (.pointer none), (.pointer none), (.pointer none), (.pointer none), (.pointer none), (.pointer none), (.pointer none), (.pointer none), (.pointer none), (.pointer none), (.pointer none)] 229 0), (67452, .row [(nI 0), (nW 1), (nI 2), (nI 0), (.bool false), (.bool false)] 139 67452), (66745, .row [(nI 0), (nI 0), (nI 1), (.int .i64 (Int.negSucc 0)), (nI 0), (nW 50), (nI 1), (nI 0), (nI 1), (.int .i64 (Int.negSucc 0)), (nI 0), (nW 30)] 330 66745), (66743, .row [(nI 0), (nI 1), (.int .i64 (Int.negSucc 0)), (nI 0), (nW 80), (nW 80)] 327 66743), (66741, .row [(nW 50), (nW 70)] 22 66741), (66748, .row [(nI 100), (nI 100), (nI 10), (nI 8), (nI 7), (nI 8), (nI 20), (nW 50000000), (nW 3), (nI 50), (nW 100000000), (nI 3), (nS 66741 0 2), (nW 80), (nW 0), (nW 0), (nW 0), (nS 66743 0 1), (nS 66745 0 2), (.slice none 0 0), (.slice none 0 0), (nS 67452 0 1), (.bool true)] 223 0), (54706, .row [(nP 66748 0), (nP 66758 0), (.slice none 0 0), (nS 66761 0 2), (.slice none 0 0)] 162 0)]
  fpre := [(66741, [66741]), (66743, [66743]), (66745, [66745]), (67452, [67452]), (66761, [66761])]
  val := (.agg ⟨[(nB 101), (nB 15), (nB 172), (nB 242), (nB 57), (nB 18), (nB 150), (nB 7), (nB 151), (nB 131), (nB 2), (nB 24), (nB 116), (nB 238), (nB 11), (nB 42), (nB 201), (nB 166), (nB 188), (nB 121), (nB 225), (nB 233), (nB 159), (nB 148), (nB 42), (nB 239), (nB 199), (nB 46), (nB 176), (nB 205), (nB 168), (nB 116)]⟩)
  post := [(54706, .row [(nP 66748 0), (nP 66758 0), (.slice none 0 0), (nS 66761 0 2), (.slice none 0 0)] 162 0), (66748, .row [(nI 100), (nI 100), (nI 10), (nI 8), (nI 7), (nI 8), (nI 20), (nW 50000000), (nW 3), (nI 50), (nW 100000000), (nI 3), (nS 66741 0 2), (nW 80), (nW 0), (nW 0), (nW 0), (nS 66743 0 1), (nS 66745 0 2), (.slice none 0 0), (.slice none 0 0), (nS 67452 0 1), (.bool true)] 223 0), (66741, .row [(nW 50), (nW 70)] 22 66741), (66743, .row [(nI 0), (nI 1), (.int .i64 (Int.negSucc 0)), (nI 0), (nW 80), (nW 80)] 327 66743), (66745, .row [(nI 0), (nI 0), (nI 1), (.int .i64 (Int.negSucc 0)), (nI 0), (nW 50), (nI 1), (nI 0), (nI 1), (.int .i64 (Int.negSucc 0)), (nI 0), (nW 30)] 330 66745), (67452, .row [(nI 0), (nW 1), (nI 2), (nI 0), (.bool false), (.bool false)] 139 67452), (66758, .row [(nI 100), (nI 100), (nI 10), (nI 8), (nI 7), (nI 8), (nI 20), (nW 50000000), (nW 3), (nI 50), (nW 100000000), (nI 3), (.pointer none), (.pointer none), (.pointer none), (.pointer none), (.pointer none), (.pointer none), (.pointer none), (.pointer none), (.pointer none), (.pointer none), (.pointer none), (.pointer none), (.pointer none), (.pointer none), (.pointer none), (.pointer none), (.pointer none), (.pointer none), (.pointer none), (.pointer none), (.pointer none), (.pointer none), (.pointer none), (.pointer none), (.pointer none), (.pointer none), (.pointer none), (.pointer none), (.pointer none), (.pointer none), (.pointer none), (.pointer none)] 229 0), (66761, .row [(nW 0), (nW 0)] 22 66761)]
  fpost := [(66761, [66761]), (67452, [67452]), (66745, [66745]), (66743, [66743]), (66741, [66741])]
  next' := 73586
theorem fine21 : T21.fine = true := by kernel_rfl
theorem trun21 (t : Nat → TypeId) : tplOk T21 ((jRunN CM 200).1 64 T21.args (T21.start lows t)) = true := by kernel_rfl
theorem good21 : TplGood Tryz.prog lows 64 T21 := ⟨fine21, CM, 200, cm_ok, trun21⟩
end Go.Ax

set_option maxRecDepth 1000000
set_option maxHeartbeats 4000000
namespace Go.Ax
open Go Go.Proofs
noncomputable def T23 : Tpl where
  bits := 17
  next := 73587
  args := [(nP 54737 0)]
  pre := [(54756, .row [(nW 0), (nW 0)] 22 54756), (54753, .row [(nI 100), (nI 100), (nI 10), (nI 8), (nI 7), (nI 8), (nI 20), (nW 50000000), (nW 3), (nI 50), (nW 100000000), (nI 1), (.pointer none), (.pointer none), (.pointer none), (.pointer none), (.pointer none), (.pointer none), (.pointer none), (.pointer none), (.pointer none), (.pointer none), (.pointer none), (.pointer none), (.pointer none), (.pointer none), (.pointer none), (.pointer none), (.pointer none), (.pointer none), (.pointer none), (.pointer none), (.pointer none), (.pointer none), (.pointer none), (.pointer none), (.pointer none), (.pointer none), (.pointer none), (.pointer none), (.pointer none), (.pointer none), (.pointer none), (.pointer none)] 229 0), (54742, .row [(nW 100), (nW 100)] 22 54742), (54743, .row [(nI 100), (nI 100), (nI 10), (nI 8), (nI 7), (nI 8), (nI 20), (nW 50000000), (nW 3), (nI 50), (nW 100000000), (nI 1), (nS 54742 0 2), (nW 0), (nW 0), (nW 0), (nW 0), (.slice none 0 0), (.slice none 0 0), (.slice none 0 0), (.slice none 0 0), (.slice none 0 0), (.bool true)] 223 0), (54737, .row [(nP 54743 0), (nP 54753 0), (.slice none 0 0), (nS 54756 0 2), (.slice none 0 0)] 162 0)]
  fpre := [(54742, [54742]), (54756, [54756])]
  val := (.agg ⟨[(nB 171), (nB 237), (nB 94), (nB 30), (nB 156), (nB 237), (nB 129), (nB 185), (nB 253), (nB 144), (nB 240), (nB 197), (nB 164), (nB 105), (nB 115), (nB 241), (nB 210), (nB 225), (nB 193), (nB 4), (nB 232), (nB 145), (nB 50), (nB 160), (nB 194), (nB 241), (nB 222), (nB 161), (nB 44), (nB 243), (nB 94), (nB 119)]⟩)
  post := [(54737, .row [(nP 54743 0), (nP 54753 0), (.slice none 0 0), (nS 54756 0 2), (.slice none 0 0)] 162 0), (54743, .row [(nI 100), (nI 100), (nI 10), (nI 8), (nI 7), (nI 8), (nI 20), (nW 50000000), (nW 3), (nI 50), (nW 100000000), (nI 1), (nS 54742 0 2), (nW 0), (nW 0), (nW 0), (nW 0), (.slice none 0 0), (.slice none 0 0), (.slice none 0 0), (.slice none 0 0), (.slice none 0 0), (.bool true)] 223 0), (54742, .row [(nW 100), (nW 100)] 22 54742), (54753, .row [(nI 100), (nI 100), (nI 10), (nI 8), (nI 7), (nI 8), (nI 20), (nW 50000000), (nW 3), (nI 50), (nW 100000000), (nI 1), (.pointer none), (.pointer none), (.pointer none), (.pointer none), (.pointer none), (.pointer none), (.pointer none), (.pointer none), (.pointer none), (.pointer none), (.pointer none), (.pointer none), (.pointer none), (.pointer none), (.pointer none), (.pointer none), (.pointer none), (.pointer none), (.pointer none), (.pointer none), (.pointer none), (.pointer none), (.pointer none), (.pointer none), (.pointer none), (.pointer none), (.pointer none), (.pointer none), (.pointer none), (.pointer none), (.pointer none), (.pointer none)] 229 0), (54756, .row [(nW 0), (nW 0)] 22 54756)]
  fpost := [(54756, [54756]), (54742, [54742])]
  next' := 75565
theorem fine23 : T23.fine = true := by kernel_rfl
theorem trun23 (t : Nat → TypeId) : tplOk T23 ((jRunN CM 200).1 64 T23.args (T23.start lows t)) = true := by kernel_rfl
theorem good23 : TplGood Tryz.prog lows 64 T23 := ⟨fine23, CM, 200, cm_ok, trun23⟩
end Go.Ax

set_option maxRecDepth 1000000
set_option maxHeartbeats 4000000
namespace Go.Ax
open Go Go.Proofs
noncomputable def T24 : Tpl where
  bits := 17
  next := 76128
  args := [(nP 54737 0)]
  pre := [(75814, .row [(nW 0), (nW 0)] 22 75814), (75811, .row [(nI 100), (nI 100), (nI 10), (nI 8), (nI 7), (nI 8), (nI 20), (nW 50000000), (nW 3), (nI 50), (nW 100000000), (nI 1), (.pointer none), (.pointer none), (.pointer none), (.pointer none), (.pointer none), (.pointer none), (.pointer none), (.pointer none), (.pointer none), (.pointer none), (.pointer none), (.pointer none), (.pointer none), (.pointer none), (.pointer none), (.pointer none), (.pointer none), (.pointer none), (.pointer none), (.pointer none), (.pointer none), (.pointer none), (.pointer none), (.pointer none), (.pointer none), (.pointer none), (.pointer none), (.pointer none), (.pointer none), (.pointer none), (.pointer none), (.pointer none)] 229 0), (75901, .row [(nI 0), (nW 1), (nI 1), (nI 0), (.bool false), (.bool false)] 139 75901), (76107, .row [(nI 0), (nI 0), (nI 1), (.int .i64 (Int.negSucc 0)), (nI 0), (nW 50)] 330 76107), (76075, .row [(nI 0), (nI 1), (.int .i64 (Int.negSucc 0)), (nI 0), (nW 50), (nW 50)] 327 76075), (75945, .row [(nW 50), (nW 100)] 22 75945), (75801, .row [(nI 100), (nI 100), (nI 10), (nI 8), (nI 7), (nI 8), (nI 20), (nW 50000000), (nW 3), (nI 50), (nW 100000000), (nI 1), (nS 75945 0 2), (nW 50), (nW 0), (nW 0), (nW 0), (nS 76075 0 1), (nS 76107 0 1), (.slice none 0 0), (.slice none 0 0), (nS 75901 0 1), (.bool true)] 223 0), (54737, .row [(nP 75801 0), (nP 75811 0), (.slice none 0 0), (nS 75814 0 2), (.slice none 0 0)] 162 0)]
  fpre := [(75945, [75945]), (76075, [76075]), (76107, [76107]), (75901, [75901]), (75814, [75814])]
  val := (.agg ⟨[(nB 183), (nB 236), (nB 27), (nB 42), (nB 140), (nB 60), (nB 5), (nB 219), (nB 198), (nB 57), (nB 155), (nB 132), (nB 241), (nB 155), (nB 202), (nB 250), (nB 180), (nB 57), (nB 170), (nB 231), (nB 142), (nB 157), (nB 171), (nB 156), (nB 247), (nB 145), (nB 78), (nB 225), (nB 206), (nB 167), (nB 89), (nB 228)]⟩)
  post := [(54737, .row [(nP 75801 0), (nP 75811 0), (.slice none 0 0), (nS 75814 0 2), (.slice none 0 0)] 162 0), (75801, .row [(nI 100), (nI 100), (nI 10), (nI 8), (nI 7), (nI 8), (nI 20), (nW 50000000), (nW 3), (nI 50), (nW 100000000), (nI 1), (nS 75945 0 2), (nW 50), (nW 0), (nW 0), (nW 0), (nS 76075 0 1), (nS 76107 0 1), (.slice none 0 0), (.slice none 0 0), (nS 75901 0 1), (.bool true)] 223 0), (75945, .row [(nW 50), (nW 100)] 22 75945), (76075, .row [(nI 0), (nI 1), (.int .i64 (Int.negSucc 0)), (nI 0), (nW 50), (nW 50)] 327 76075), (76107, .row [(nI 0), (nI 0), (nI 1), (.int .i64 (Int.negSucc 0)), (nI 0), (nW 50)] 330 76107), (75901, .row [(nI 0), (nW 1), (nI 1), (nI 0), (.bool false), (.bool false)] 139 75901), (75811, .row [(nI 100), (nI 100), (nI 10), (nI 8), (nI 7), (nI 8), (nI 20), (nW 50000000), (nW 3), (nI 50), (nW 100000000), (nI 1), (.pointer none), (.pointer none), (.pointer none), (.pointer none), (.pointer none), (.pointer none), (.pointer none), (.pointer none), (.pointer none), (.pointer none), (.pointer none), (.pointer none), (.pointer none), (.pointer none), (.pointer none), (.pointer none), (.pointer none), (.pointer none), (.pointer none), (.pointer none), (.pointer none), (.pointer none), (.pointer none), (.pointer none), (.pointer none), (.pointer none), (.pointer none), (.pointer none), (.pointer none), (.pointer none), (.pointer none), (.pointer none)] 229 0), (75814, .row [(nW 0), (nW 0)] 22 75814)]
  fpost := [(75814, [75814]), (75901, [75901]), (76107, [76107]), (76075, [76075]), (75945, [75945])]
  next' := 78890
theorem fine24 : T24.fine = true := by kernel_rfl
theorem trun24 (t : Nat → TypeId) : tplOk T24 ((jRunN CM 200).1 64 T24.args (T24.start lows t)) = true := by kernel_rfl
theorem good24 : TplGood Tryz.prog lows 64 T24 := ⟨fine24, CM, 200, cm_ok, trun24⟩
end Go.Ax

