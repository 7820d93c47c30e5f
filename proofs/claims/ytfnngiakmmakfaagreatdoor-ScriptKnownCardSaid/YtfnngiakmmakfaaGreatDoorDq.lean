import Derived.Test.YtfnngiakmmakfaaGreatDoorDp
set_option maxRecDepth 1000000
set_option maxHeartbeats 4000000
namespace Go.Ax
open Go Go.Proofs
noncomputable def T0 : Tpl where
  bits := 15
  next := 833
  args := [(.agg ⟨[(nI 100), (nI 100), (nI 10), (nI 8), (nI 7), (nI 8), (nI 20), (nW 50000000), (nW 3), (nI 50), (nW 100000000), (nI 1), (nS 119 0 2), (nW 0), (nW 0), (nW 0), (nW 0), (.slice none 0 0), (.slice none 0 0), (.slice none 0 0), (.slice none 0 0), (.slice none 0 0), (.slice none 0 0), (nS 121 0 2), (.slice none 0 0), (.slice none 0 0), (.slice none 0 0)]⟩), (.slice (some ⟨831, 0, none⟩) 5 5)]
  pre := [(830, .row [(nB 10), (nB 0)] 5 0), (829, .row [(nB 11), (nB 2)] 5 0), (828, .row [(nB 3), (nB 1), (nB 0), (nB 30)] 5 0), (827, .row [(nB 13)] 5 0), (826, .row [(nB 2), (nB 0), (nB 1), (nB 50)] 5 0), (831, .row [(.slice (some ⟨826, 0, none⟩) 4 4), (.slice (some ⟨827, 0, none⟩) 1 1), (.slice (some ⟨828, 0, none⟩) 4 4), (.slice (some ⟨829, 0, none⟩) 2 2), (.slice (some ⟨830, 0, none⟩) 2 2)] 109 0), (121, .row [(nW 0), (nW 0)] 22 121), (119, .row [(nW 100), (nW 100)] 22 119)]
  fpre := [(119, [119]), (121, [121])]
  val := (.tuple ⟨[(nS 3332 0 3), (nI 0)]⟩)
  post := [(3331, .row [(nB 11), (nB 2)] 5 3331), (2431, .row [(nB 3), (nB 1), (nB 0), (nB 30)] 5 2431), (1586, .row [(nB 2), (nB 0), (nB 1), (nB 50)] 5 1586), (3332, .row [(nS 1586 0 4), (nS 2431 0 4), (nS 3331 0 2)] 109 1587), (119, .row [(nW 100), (nW 100)] 22 119), (121, .row [(nW 0), (nW 0)] 22 121), (831, .row [(.slice (some ⟨826, 0, none⟩) 4 4), (.slice (some ⟨827, 0, none⟩) 1 1), (.slice (some ⟨828, 0, none⟩) 4 4), (.slice (some ⟨829, 0, none⟩) 2 2), (.slice (some ⟨830, 0, none⟩) 2 2)] 109 0), (826, .row [(nB 2), (nB 0), (nB 1), (nB 50)] 5 0), (827, .row [(nB 13)] 5 0), (828, .row [(nB 3), (nB 1), (nB 0), (nB 30)] 5 0), (829, .row [(nB 11), (nB 2)] 5 0), (830, .row [(nB 10), (nB 0)] 5 0)]
  fpost := [(121, [121]), (119, [119]), (1587, [3332]), (1586, [1586]), (2431, [2431]), (3331, [3331])]
  next' := 3550
theorem fine0 : T0.fine = true := by kernel_rfl
theorem trun0 (t : Nat → TypeId) : tplOk T0 ((jRunN CM 200).1 7 T0.args (T0.start lows t)) = true := by kernel_rfl
theorem good0 : TplGood Tryz.prog lows 7 T0 := ⟨fine0, CM, 200, cm_ok, trun0⟩
end Go.Ax

set_option maxRecDepth 1000000
set_option maxHeartbeats 4000000
namespace Go.Ax
open Go Go.Proofs
noncomputable def T1 : Tpl where
  bits := 15
  next := 3734
  args := [(nP 3729 0)]
  pre := [(3733, .row [(nW 0), (nW 0)] 22 3733), (3716, .row [(nI 100), (nI 100), (nI 10), (nI 8), (nI 7), (nI 8), (nI 20), (nW 50000000), (nW 3), (nI 50), (nW 100000000), (nI 1), (.pointer none), (.pointer none), (.pointer none), (.pointer none), (.pointer none), (.pointer none), (.pointer none), (.pointer none), (.pointer none), (.pointer none), (.pointer none), (.pointer none), (.pointer none), (.pointer none), (.pointer none), (.pointer none), (.pointer none), (.pointer none), (.pointer none), (.pointer none), (.pointer none), (.pointer none), (.pointer none), (.pointer none), (.pointer none), (.pointer none), (.pointer none), (.pointer none), (.pointer none), (.pointer none), (.pointer none), (.pointer none)] 229 0), (3713, .row [(nW 100), (nW 100)] 22 3713), (3714, .row [(nI 100), (nI 100), (nI 10), (nI 8), (nI 7), (nI 8), (nI 20), (nW 50000000), (nW 3), (nI 50), (nW 100000000), (nI 1), (nS 3713 0 2), (nW 0), (nW 0), (nW 0), (nW 0), (.slice none 0 0), (.slice none 0 0), (.slice none 0 0), (.slice none 0 0), (.slice none 0 0), (.bool true)] 223 0), (3729, .row [(nP 3714 0), (nP 3716 0), (.slice none 0 0), (nS 3733 0 2), (.slice none 0 0)] 162 0)]
  fpre := [(3713, [3713]), (3733, [3733])]
  val := (.agg ⟨[(nB 171), (nB 237), (nB 94), (nB 30), (nB 156), (nB 237), (nB 129), (nB 185), (nB 253), (nB 144), (nB 240), (nB 197), (nB 164), (nB 105), (nB 115), (nB 241), (nB 210), (nB 225), (nB 193), (nB 4), (nB 232), (nB 145), (nB 50), (nB 160), (nB 194), (nB 241), (nB 222), (nB 161), (nB 44), (nB 243), (nB 94), (nB 119)]⟩)
  post := [(3729, .row [(nP 3714 0), (nP 3716 0), (.slice none 0 0), (nS 3733 0 2), (.slice none 0 0)] 162 0), (3714, .row [(nI 100), (nI 100), (nI 10), (nI 8), (nI 7), (nI 8), (nI 20), (nW 50000000), (nW 3), (nI 50), (nW 100000000), (nI 1), (nS 3713 0 2), (nW 0), (nW 0), (nW 0), (nW 0), (.slice none 0 0), (.slice none 0 0), (.slice none 0 0), (.slice none 0 0), (.slice none 0 0), (.bool true)] 223 0), (3713, .row [(nW 100), (nW 100)] 22 3713), (3716, .row [(nI 100), (nI 100), (nI 10), (nI 8), (nI 7), (nI 8), (nI 20), (nW 50000000), (nW 3), (nI 50), (nW 100000000), (nI 1), (.pointer none), (.pointer none), (.pointer none), (.pointer none), (.pointer none), (.pointer none), (.pointer none), (.pointer none), (.pointer none), (.pointer none), (.pointer none), (.pointer none), (.pointer none), (.pointer none), (.pointer none), (.pointer none), (.pointer none), (.pointer none), (.pointer none), (.pointer none), (.pointer none), (.pointer none), (.pointer none), (.pointer none), (.pointer none), (.pointer none), (.pointer none), (.pointer none), (.pointer none), (.pointer none), (.pointer none), (.pointer none)] 229 0), (3733, .row [(nW 0), (nW 0)] 22 3733)]
  fpost := [(3733, [3733]), (3713, [3713])]
  next' := 5712
theorem fine1 : T1.fine = true := by kernel_rfl
theorem trun1 (t : Nat → TypeId) : tplOk T1 ((jRunN CM 200).1 64 T1.args (T1.start lows t)) = true := by kernel_rfl
theorem good1 : TplGood Tryz.prog lows 64 T1 := ⟨fine1, CM, 200, cm_ok, trun1⟩
end Go.Ax

set_option maxRecDepth 1000000
set_option maxHeartbeats 4000000
namespace Go.Ax
open Go Go.Proofs
noncomputable def T2 : Tpl where
  bits := 15
  next := 6275
  args := [(nP 3729 0)]
  pre := [(5961, .row [(nW 0), (nW 0)] 22 5961), (5958, .row [(nI 100), (nI 100), (nI 10), (nI 8), (nI 7), (nI 8), (nI 20), (nW 50000000), (nW 3), (nI 50), (nW 100000000), (nI 1), (.pointer none), (.pointer none), (.pointer none), (.pointer none), (.pointer none), (.pointer none), (.pointer none), (.pointer none), (.pointer none), (.pointer none), (.pointer none), (.pointer none), (.pointer none), (.pointer none), (.pointer none), (.pointer none), (.pointer none), (.pointer none), (.pointer none), (.pointer none), (.pointer none), (.pointer none), (.pointer none), (.pointer none), (.pointer none), (.pointer none), (.pointer none), (.pointer none), (.pointer none), (.pointer none), (.pointer none), (.pointer none)] 229 0), (6048, .row [(nI 0), (nW 1), (nI 1), (nI 0), (.bool false), (.bool false)] 139 6048), (6254, .row [(nI 0), (nI 0), (nI 1), (.int .i64 (Int.negSucc 0)), (nI 0), (nW 50)] 330 6254), (6222, .row [(nI 0), (nI 1), (.int .i64 (Int.negSucc 0)), (nI 0), (nW 50), (nW 50)] 327 6222), (6092, .row [(nW 50), (nW 100)] 22 6092), (5948, .row [(nI 100), (nI 100), (nI 10), (nI 8), (nI 7), (nI 8), (nI 20), (nW 50000000), (nW 3), (nI 50), (nW 100000000), (nI 1), (nS 6092 0 2), (nW 50), (nW 0), (nW 0), (nW 0), (nS 6222 0 1), (nS 6254 0 1), (.slice none 0 0), (.slice none 0 0), (nS 6048 0 1), (.bool true)] 223 0), (3729, .row [(nP 5948 0), (nP 5958 0), (.slice none 0 0), (nS 5961 0 2), (.slice none 0 0)] 162 0)]
  fpre := [(6092, [6092]), (6222, [6222]), (6254, [6254]), (6048, [6048]), (5961, [5961])]
  val := (.agg ⟨[(nB 183), (nB 236), (nB 27), (nB 42), (nB 140), (nB 60), (nB 5), (nB 219), (nB 198), (nB 57), (nB 155), (nB 132), (nB 241), (nB 155), (nB 202), (nB 250), (nB 180), (nB 57), (nB 170), (nB 231), (nB 142), (nB 157), (nB 171), (nB 156), (nB 247), (nB 145), (nB 78), (nB 225), (nB 206), (nB 167), (nB 89), (nB 228)]⟩)
  post := [(3729, .row [(nP 5948 0), (nP 5958 0), (.slice none 0 0), (nS 5961 0 2), (.slice none 0 0)] 162 0), (5948, .row [(nI 100), (nI 100), (nI 10), (nI 8), (nI 7), (nI 8), (nI 20), (nW 50000000), (nW 3), (nI 50), (nW 100000000), (nI 1), (nS 6092 0 2), (nW 50), (nW 0), (nW 0), (nW 0), (nS 6222 0 1), (nS 6254 0 1), (.slice none 0 0), (.slice none 0 0), (nS 6048 0 1), (.bool true)] 223 0), (6092, .row [(nW 50), (nW 100)] 22 6092), (6222, .row [(nI 0), (nI 1), (.int .i64 (Int.negSucc 0)), (nI 0), (nW 50), (nW 50)] 327 6222), (6254, .row [(nI 0), (nI 0), (nI 1), (.int .i64 (Int.negSucc 0)), (nI 0), (nW 50)] 330 6254), (6048, .row [(nI 0), (nW 1), (nI 1), (nI 0), (.bool false), (.bool false)] 139 6048), (5958, .row [(nI 100), (nI 100), (nI 10), (nI 8), (nI 7), (nI 8), (nI 20), (nW 50000000), (nW 3), (nI 50), (nW 100000000), (nI 1), (.pointer none), (.pointer none), (.pointer none), (.pointer none), (.pointer none), (.pointer none), (.pointer none), (.pointer none), (.pointer none), (.pointer none), (.pointer none), (.pointer none), (.pointer none), (.pointer none), (.pointer none), (.pointer none), (.pointer none), (.pointer none), (.pointer none), (.pointer none), (.pointer none), (.pointer none), (.pointer none), (.pointer none), (.pointer none), (.pointer none), (.pointer none), (.pointer none), (.pointer none), (.pointer none), (.pointer none), (.pointer none)] 229 0), (5961, .row [(nW 0), (nW 0)] 22 5961)]
  fpost := [(5961, [5961]), (6048, [6048]), (6254, [6254]), (6222, [6222]), (6092, [6092])]
  next' := 9037
theorem fine2 : T2.fine = true := by kernel_rfl
theorem trun2 (t : Nat → TypeId) : tplOk T2 ((jRunN CM 200).1 64 T2.args (T2.start lows t)) = true := by kernel_rfl
theorem good2 : TplGood Tryz.prog lows 64 T2 := ⟨fine2, CM, 200, cm_ok, trun2⟩
end Go.Ax

