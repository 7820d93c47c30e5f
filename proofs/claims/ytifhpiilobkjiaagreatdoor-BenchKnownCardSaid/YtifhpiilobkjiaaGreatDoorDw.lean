import Derived.Test.YtifhpiilobkjiaaGreatDoorDv
set_option maxRecDepth 1000000
set_option maxHeartbeats 4000000
namespace Go.Ax
open Go Go.Proofs
noncomputable def TC1 : List (Nat × Row) := []
noncomputable def T1 : Tpl where
  bits := 15
  next := 64
  args := []
  pre := appL TC1 []
  fpre := []
  val := (nP 65 0)
  post := appL TC1 [(5109, .row [nI 0, nB 69, nB 134, nB 231, nB 61, nB 66, nB 29, nB 206, nB 242, nB 255, nB 15, nB 188, nB 200, nB 68, nB 34, nB 18, nB 159, nB 219, nB 58, nB 190, nB 47, nB 224, nB 6, nB 161, nB 128, nB 182, nB 32, nB 110, nB 137, nB 24, nB 221, nB 19, nB 30, nW 7, nI 0, nB 142, nB 56, nB 83, nB 81, nB 182, nB 156, nB 84, nB 240, nB 27, nB 82, nB 199, nB 250, nB 72, nB 136, nB 95, nB 166, nB 187, nB 85, nB 83, nB 238, nB 196, nB 21, nB 213, nB 148, nB 2, nB 66, nB 4, nB 212, nB 208, nB 72, nB 200, nB 182, nW 2, nI 0, nB 246, nB 124, nB 231, nB 154, nB 145, nB 254, nB 85, nB 215, nB 199, nB 125, nB 29, nB 245, nB 240, nB 120, nB 70, nB 78, nB 100, nB 196, nB 182, nB 179, nB 216, nB 179, nB 178, nB 26, nB 103, nB 111, nB 66, nB 207, nB 96, nB 231, nB 91, nB 176, nW 1] 83 5109), (5107, .row [nW 0, nW 0] 23 5107), (5104, .row [nI 100, nI 100, nI 2, nI 8, nI 7, nI 8, nI 20, nW 50000000, nW 3, nI 50, nW 100000000, nI 2, (.pointer none), (.pointer none), (.pointer none), (.pointer none), (.pointer none), (.pointer none), (.pointer none), (.pointer none), (.pointer none), (.pointer none), (.pointer none), (.pointer none), (.pointer none), (.pointer none), (.pointer none), (.pointer none), (.pointer none), (.pointer none), (.pointer none), (.pointer none), (.pointer none), (.pointer none), (.pointer none), (.pointer none), (.pointer none), (.pointer none), (.pointer none), (.pointer none), (.pointer none), (.pointer none), (.pointer none), (.pointer none)] 275 0), (5451, .row [nI 0, nW 1, nI 2, nI 0, (.bool false), (.bool false)] 149 5451), (5091, .row [nI 0, nI 0, nI 1, (.int .i64 (Int.negSucc 0)), nI 0, nW 50, nI 1, nI 0, nI 1, (.int .i64 (Int.negSucc 0)), nI 0, nW 30] 154 5091), (5089, .row [nI 0, nI 1, (.int .i64 (Int.negSucc 0)), nI 0, nW 80, nW 80] 320 5089), (5087, .row [nW 50, nW 70] 23 5087), (5094, .row [nI 100, nI 100, nI 2, nI 8, nI 7, nI 8, nI 20, nW 50000000, nW 3, nI 50, nW 100000000, nI 2, (nS 5087 0 2), nW 80, nW 0, nW 0, nW 0, (nS 5089 0 1), (nS 5091 0 2), (.slice none 0 0), (.slice none 0 0), (nS 5451 0 1), (.bool true)] 270 0), (3507, .row [(nP 5094 0), (nP 5104 0), (.slice none 0 0), (nS 5107 0 2), (nS 5109 0 3)] 208 0), (3293, .row [nI 0, nB 69, nB 134, nB 231, nB 61, nB 66, nB 29, nB 206, nB 242, nB 255, nB 15, nB 188, nB 200, nB 68, nB 34, nB 18, nB 159, nB 219, nB 58, nB 190, nB 47, nB 224, nB 6, nB 161, nB 128, nB 182, nB 32, nB 110, nB 137, nB 24, nB 221, nB 19, nB 30, nW 7, nI 0, nB 142, nB 56, nB 83, nB 81, nB 182, nB 156, nB 84, nB 240, nB 27, nB 82, nB 199, nB 250, nB 72, nB 136, nB 95, nB 166, nB 187, nB 85, nB 83, nB 238, nB 196, nB 21, nB 213, nB 148, nB 2, nB 66, nB 4, nB 212, nB 208, nB 72, nB 200, nB 182, nW 2, nI 0, nB 246, nB 124, nB 231, nB 154, nB 145, nB 254, nB 85, nB 215, nB 199, nB 125, nB 29, nB 245, nB 240, nB 120, nB 70, nB 78, nB 100, nB 196, nB 182, nB 179, nB 216, nB 179, nB 178, nB 26, nB 103, nB 111, nB 66, nB 207, nB 96, nB 231, nB 91, nB 176, nW 1] 83 3292), (745, .row [nW 100, nW 100] 23 744), (65, .row [(.bool true), nI 100, nI 100, nI 2, nI 8, nI 7, nI 8, nI 20, nW 50000000, nW 3, nI 50, nW 100000000, (nS 745 0 2), (nS 3293 0 3), (nP 3507 0)] 30 0)]
  fpost := [(744, [745]), (3292, [3293]), (5087, [5087]), (5089, [5089]), (5091, [5091]), (5451, [5451]), (5107, [5107]), (5109, [5109])]
  next' := 7332
theorem fine1 : T1.fine = true := by kernel_rfl
theorem trun1 (t : Nat → TypeId) : tplOk T1 ((jRunN CX1 200).1 7 T1.args (T1.start lows t)) = true := by kernel_rfl
theorem good1 : TplGood Tryz.prog lows 7 T1 := ⟨fine1, CX1, 200, cx1_ok, trun1⟩
end Go.Ax

set_option maxRecDepth 1000000
set_option maxHeartbeats 4000000
namespace Go.Ax
open Go Go.Proofs
noncomputable def TC6 : List (Nat × Row) := []
noncomputable def T6 : Tpl where
  bits := 15
  next := 21884
  args := []
  pre := appL TC6 []
  fpre := []
  val := (nP 21885 0)
  post := appL TC6 [(26929, .row [nI 0, nB 69, nB 134, nB 231, nB 61, nB 66, nB 29, nB 206, nB 242, nB 255, nB 15, nB 188, nB 200, nB 68, nB 34, nB 18, nB 159, nB 219, nB 58, nB 190, nB 47, nB 224, nB 6, nB 161, nB 128, nB 182, nB 32, nB 110, nB 137, nB 24, nB 221, nB 19, nB 30, nW 7, nI 0, nB 142, nB 56, nB 83, nB 81, nB 182, nB 156, nB 84, nB 240, nB 27, nB 82, nB 199, nB 250, nB 72, nB 136, nB 95, nB 166, nB 187, nB 85, nB 83, nB 238, nB 196, nB 21, nB 213, nB 148, nB 2, nB 66, nB 4, nB 212, nB 208, nB 72, nB 200, nB 182, nW 2, nI 0, nB 246, nB 124, nB 231, nB 154, nB 145, nB 254, nB 85, nB 215, nB 199, nB 125, nB 29, nB 245, nB 240, nB 120, nB 70, nB 78, nB 100, nB 196, nB 182, nB 179, nB 216, nB 179, nB 178, nB 26, nB 103, nB 111, nB 66, nB 207, nB 96, nB 231, nB 91, nB 176, nW 1] 83 26929), (26927, .row [nW 0, nW 0] 23 26927), (26924, .row [nI 100, nI 100, nI 2, nI 8, nI 7, nI 8, nI 20, nW 50000000, nW 3, nI 50, nW 100000000, nI 2, (.pointer none), (.pointer none), (.pointer none), (.pointer none), (.pointer none), (.pointer none), (.pointer none), (.pointer none), (.pointer none), (.pointer none), (.pointer none), (.pointer none), (.pointer none), (.pointer none), (.pointer none), (.pointer none), (.pointer none), (.pointer none), (.pointer none), (.pointer none), (.pointer none), (.pointer none), (.pointer none), (.pointer none), (.pointer none), (.pointer none), (.pointer none), (.pointer none), (.pointer none), (.pointer none), (.pointer none), (.pointer none)] 275 0), (27271, .row [nI 0, nW 1, nI 2, nI 0, (.bool false), (.bool false)] 149 27271), (26911, .row [nI 0, nI 0, nI 1, (.int .i64 (Int.negSucc 0)), nI 0, nW 50, nI 1, nI 0, nI 1, (.int .i64 (Int.negSucc 0)), nI 0, nW 30] 154 26911), (26909, .row [nI 0, nI 1, (.int .i64 (Int.negSucc 0)), nI 0, nW 80, nW 80] 320 26909), (26907, .row [nW 50, nW 70] 23 26907), (26914, .row [nI 100, nI 100, nI 2, nI 8, nI 7, nI 8, nI 20, nW 50000000, nW 3, nI 50, nW 100000000, nI 2, (nS 26907 0 2), nW 80, nW 0, nW 0, nW 0, (nS 26909 0 1), (nS 26911 0 2), (.slice none 0 0), (.slice none 0 0), (nS 27271 0 1), (.bool true)] 270 0), (25327, .row [(nP 26914 0), (nP 26924 0), (.slice none 0 0), (nS 26927 0 2), (nS 26929 0 3)] 208 0), (25113, .row [nI 0, nB 69, nB 134, nB 231, nB 61, nB 66, nB 29, nB 206, nB 242, nB 255, nB 15, nB 188, nB 200, nB 68, nB 34, nB 18, nB 159, nB 219, nB 58, nB 190, nB 47, nB 224, nB 6, nB 161, nB 128, nB 182, nB 32, nB 110, nB 137, nB 24, nB 221, nB 19, nB 30, nW 7, nI 0, nB 142, nB 56, nB 83, nB 81, nB 182, nB 156, nB 84, nB 240, nB 27, nB 82, nB 199, nB 250, nB 72, nB 136, nB 95, nB 166, nB 187, nB 85, nB 83, nB 238, nB 196, nB 21, nB 213, nB 148, nB 2, nB 66, nB 4, nB 212, nB 208, nB 72, nB 200, nB 182, nW 2, nI 0, nB 246, nB 124, nB 231, nB 154, nB 145, nB 254, nB 85, nB 215, nB 199, nB 125, nB 29, nB 245, nB 240, nB 120, nB 70, nB 78, nB 100, nB 196, nB 182, nB 179, nB 216, nB 179, nB 178, nB 26, nB 103, nB 111, nB 66, nB 207, nB 96, nB 231, nB 91, nB 176, nW 1] 83 25112), (22565, .row [nW 100, nW 100] 23 22564), (21885, .row [(.bool true), nI 100, nI 100, nI 2, nI 8, nI 7, nI 8, nI 20, nW 50000000, nW 3, nI 50, nW 100000000, (nS 22565 0 2), (nS 25113 0 3), (nP 25327 0)] 30 0)]
  fpost := [(22564, [22565]), (25112, [25113]), (26907, [26907]), (26909, [26909]), (26911, [26911]), (27271, [27271]), (26927, [26927]), (26929, [26929])]
  next' := 29152
theorem fine6 : T6.fine = true := by kernel_rfl
theorem trun6 (t : Nat → TypeId) : tplOk T6 ((jRunN CX1 200).1 7 T6.args (T6.start lows t)) = true := by kernel_rfl
theorem good6 : TplGood Tryz.prog lows 7 T6 := ⟨fine6, CX1, 200, cx1_ok, trun6⟩
end Go.Ax

