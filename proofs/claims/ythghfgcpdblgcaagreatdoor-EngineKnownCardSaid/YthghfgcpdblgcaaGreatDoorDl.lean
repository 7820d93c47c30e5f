import Derived.Test.YthghfgcpdblgcaaGreatDoorDk
set_option maxRecDepth 1000000
set_option maxHeartbeats 4000000
namespace Go.Ax
open Go Go.Proofs
noncomputable def TC0 : List (Nat × Row) := []
noncomputable def T0 : Tpl where
  bits := 15
  next := 64
  args := []
  pre := appL TC0 []
  fpre := []
  val := (nP 1160 0)
  post := appL TC0 [(2957, .row [nI 0, nB 142, nB 56, nB 83, nB 81, nB 182, nB 156, nB 84, nB 240, nB 27, nB 82, nB 199, nB 250, nB 72, nB 136, nB 95, nB 166, nB 187, nB 85, nB 83, nB 238, nB 196, nB 21, nB 213, nB 148, nB 2, nB 66, nB 4, nB 212, nB 208, nB 72, nB 200, nB 182, nW 2, nI 0, nB 246, nB 124, nB 231, nB 154, nB 145, nB 254, nB 85, nB 215, nB 199, nB 125, nB 29, nB 245, nB 240, nB 120, nB 70, nB 78, nB 100, nB 196, nB 182, nB 179, nB 216, nB 179, nB 178, nB 26, nB 103, nB 111, nB 66, nB 207, nB 96, nB 231, nB 91, nB 176, nW 1] 86 2957), (2955, .row [nW 0, nW 0] 26 2955), (2952, .row [nI 4, nI 4, nI 2, nI 3, nI 7, nI 8, nI 2, nW 100000000, nW 0, nI 50, nW 100000000, nI 2, (.pointer none), (.pointer none), (.pointer none), (.pointer none), (.pointer none), (.pointer none), (.pointer none), (.pointer none), (.pointer none), (.pointer none), (.pointer none), (.pointer none), (.pointer none), (.pointer none), (.pointer none), (.pointer none), (.pointer none), (.pointer none), (.pointer none), (.pointer none), (.pointer none), (.pointer none), (.pointer none), (.pointer none), (.pointer none), (.pointer none), (.pointer none), (.pointer none), (.pointer none), (.pointer none), (.pointer none), (.pointer none)] 164 0), (3299, .row [nI 0, nW 1, nI 2, nI 0, (.bool false), (.bool false)] 226 3299), (2939, .row [nI 0, nI 0, nI 1, (.int .i64 (Int.negSucc 0)), nI 0, nW 50, nI 1, nI 0, nI 1, (.int .i64 (Int.negSucc 0)), nI 0, nW 30] 217 2939), (2937, .row [nI 0, nI 1, (.int .i64 (Int.negSucc 0)), nI 0, nW 80, nW 80] 214 2937), (2935, .row [nW 50, nW 70] 26 2935), (2942, .row [nI 4, nI 4, nI 2, nI 3, nI 7, nI 8, nI 2, nW 100000000, nW 0, nI 50, nW 100000000, nI 2, (nS 2935 0 2), nW 80, nW 0, nW 0, nW 0, (nS 2937 0 1), (nS 2939 0 2), (.slice none 0 0), (.slice none 0 0), (nS 3299 0 1), (.bool true)] 159 0), (1160, .row [(nP 2942 0), (nP 2952 0), (.slice none 0 0), (nS 2955 0 2), (nS 2957 0 2)] 107 0)]
  fpost := [(2935, [2935]), (2937, [2937]), (2939, [2939]), (3299, [3299]), (2955, [2955]), (2957, [2957])]
  next' := 3348
theorem fine0 : T0.fine = true := by kernel_rfl
theorem trun0 (t : Nat → TypeId) : tplOk T0 ((jRunN CM 200).1 4 T0.args (T0.start lows t)) = true := by kernel_rfl
theorem good0 : TplGood Tryz.prog lows 4 T0 := ⟨fine0, CM, 200, cm_ok, trun0⟩
noncomputable def TC4 : List (Nat × Row) := []
noncomputable def T4 : Tpl where
  bits := 15
  next := 14837
  args := []
  pre := appL TC4 []
  fpre := []
  val := (nP 15933 0)
  post := appL TC4 [(17730, .row [nI 0, nB 142, nB 56, nB 83, nB 81, nB 182, nB 156, nB 84, nB 240, nB 27, nB 82, nB 199, nB 250, nB 72, nB 136, nB 95, nB 166, nB 187, nB 85, nB 83, nB 238, nB 196, nB 21, nB 213, nB 148, nB 2, nB 66, nB 4, nB 212, nB 208, nB 72, nB 200, nB 182, nW 2, nI 0, nB 246, nB 124, nB 231, nB 154, nB 145, nB 254, nB 85, nB 215, nB 199, nB 125, nB 29, nB 245, nB 240, nB 120, nB 70, nB 78, nB 100, nB 196, nB 182, nB 179, nB 216, nB 179, nB 178, nB 26, nB 103, nB 111, nB 66, nB 207, nB 96, nB 231, nB 91, nB 176, nW 1] 86 17730), (17728, .row [nW 0, nW 0] 26 17728), (17725, .row [nI 4, nI 4, nI 2, nI 3, nI 7, nI 8, nI 2, nW 100000000, nW 0, nI 50, nW 100000000, nI 2, (.pointer none), (.pointer none), (.pointer none), (.pointer none), (.pointer none), (.pointer none), (.pointer none), (.pointer none), (.pointer none), (.pointer none), (.pointer none), (.pointer none), (.pointer none), (.pointer none), (.pointer none), (.pointer none), (.pointer none), (.pointer none), (.pointer none), (.pointer none), (.pointer none), (.pointer none), (.pointer none), (.pointer none), (.pointer none), (.pointer none), (.pointer none), (.pointer none), (.pointer none), (.pointer none), (.pointer none), (.pointer none)] 164 0), (18072, .row [nI 0, nW 1, nI 2, nI 0, (.bool false), (.bool false)] 226 18072), (17712, .row [nI 0, nI 0, nI 1, (.int .i64 (Int.negSucc 0)), nI 0, nW 50, nI 1, nI 0, nI 1, (.int .i64 (Int.negSucc 0)), nI 0, nW 30] 217 17712), (17710, .row [nI 0, nI 1, (.int .i64 (Int.negSucc 0)), nI 0, nW 80, nW 80] 214 17710), (17708, .row [nW 50, nW 70] 26 17708), (17715, .row [nI 4, nI 4, nI 2, nI 3, nI 7, nI 8, nI 2, nW 100000000, nW 0, nI 50, nW 100000000, nI 2, (nS 17708 0 2), nW 80, nW 0, nW 0, nW 0, (nS 17710 0 1), (nS 17712 0 2), (.slice none 0 0), (.slice none 0 0), (nS 18072 0 1), (.bool true)] 159 0), (15933, .row [(nP 17715 0), (nP 17725 0), (.slice none 0 0), (nS 17728 0 2), (nS 17730 0 2)] 107 0)]
  fpost := [(17708, [17708]), (17710, [17710]), (17712, [17712]), (18072, [18072]), (17728, [17728]), (17730, [17730])]
  next' := 18121
theorem fine4 : T4.fine = true := by kernel_rfl
theorem trun4 (t : Nat → TypeId) : tplOk T4 ((jRunN CM 200).1 4 T4.args (T4.start lows t)) = true := by kernel_rfl
theorem good4 : TplGood Tryz.prog lows 4 T4 := ⟨fine4, CM, 200, cm_ok, trun4⟩
end Go.Ax
