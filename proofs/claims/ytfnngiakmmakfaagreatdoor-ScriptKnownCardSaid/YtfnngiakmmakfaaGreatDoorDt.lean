import Derived.Test.YtfnngiakmmakfaaGreatDoorDp
set_option maxRecDepth 1000000
set_option maxHeartbeats 4000000
namespace Go.Ax
open Go Go.Proofs
noncomputable def T10 : Tpl where
  bits := 16
  next := 35532
  args := [(nP 22743 0)]
  pre := [(34798, .row [(nW 0), (nW 0)] 22 34798), (34795, .row [(nI 100), (nI 100), (nI 10), (nI 8), (nI 7), (nI 8), (nI 20), (nW 50000000), (nW 3), (nI 50), (nW 100000000), (nI 3), (.pointer none), (.pointer none), (.pointer none), (.pointer none), (.pointer none), (.pointer none), (.pointer none), (.pointer none), (.pointer none), (.pointer none), (.pointer none), (.pointer none), (.pointer none), (.pointer none), (.pointer none), (.pointer none), (.pointer none), (.pointer none), (.pointer none), (.pointer none), (.pointer none), (.pointer none), (.pointer none), (.pointer none), (.pointer none), (.pointer none), (.pointer none), (.pointer none), (.pointer none), (.pointer none), (.pointer none), (.pointer none)] 229 0), (35489, .row [(nI 0), (nW 1), (nI 2), (nI 0), (.bool false), (.bool false)] 139 35489), (34782, .row [(nI 0), (nI 0), (nI 1), (.int .i64 (Int.negSucc 0)), (nI 0), (nW 50), (nI 1), (nI 0), (nI 1), (.int .i64 (Int.negSucc 0)), (nI 0), (nW 30)] 330 34782), (34780, .row [(nI 0), (nI 1), (.int .i64 (Int.negSucc 0)), (nI 0), (nW 80), (nW 80)] 327 34780), (34778, .row [(nW 50), (nW 70)] 22 34778), (34785, .row [(nI 100), (nI 100), (nI 10), (nI 8), (nI 7), (nI 8), (nI 20), (nW 50000000), (nW 3), (nI 50), (nW 100000000), (nI 3), (nS 34778 0 2), (nW 80), (nW 0), (nW 0), (nW 0), (nS 34780 0 1), (nS 34782 0 2), (.slice none 0 0), (.slice none 0 0), (nS 35489 0 1), (.bool true)] 223 0), (22743, .row [(nP 34785 0), (nP 34795 0), (.slice none 0 0), (nS 34798 0 2), (.slice none 0 0)] 162 0)]
  fpre := [(34778, [34778]), (34780, [34780]), (34782, [34782]), (35489, [35489]), (34798, [34798])]
  val := (.agg ⟨[(nB 101), (nB 15), (nB 172), (nB 242), (nB 57), (nB 18), (nB 150), (nB 7), (nB 151), (nB 131), (nB 2), (nB 24), (nB 116), (nB 238), (nB 11), (nB 42), (nB 201), (nB 166), (nB 188), (nB 121), (nB 225), (nB 233), (nB 159), (nB 148), (nB 42), (nB 239), (nB 199), (nB 46), (nB 176), (nB 205), (nB 168), (nB 116)]⟩)
  post := [(22743, .row [(nP 34785 0), (nP 34795 0), (.slice none 0 0), (nS 34798 0 2), (.slice none 0 0)] 162 0), (34785, .row [(nI 100), (nI 100), (nI 10), (nI 8), (nI 7), (nI 8), (nI 20), (nW 50000000), (nW 3), (nI 50), (nW 100000000), (nI 3), (nS 34778 0 2), (nW 80), (nW 0), (nW 0), (nW 0), (nS 34780 0 1), (nS 34782 0 2), (.slice none 0 0), (.slice none 0 0), (nS 35489 0 1), (.bool true)] 223 0), (34778, .row [(nW 50), (nW 70)] 22 34778), (34780, .row [(nI 0), (nI 1), (.int .i64 (Int.negSucc 0)), (nI 0), (nW 80), (nW 80)] 327 34780), (34782, .row [(nI 0), (nI 0), (nI 1), (.int .i64 (Int.negSucc 0)), (nI 0), (nW 50), (nI 1), (nI 0), (nI 1), (.int .i64 (Int.negSucc 0)), (nI 0), (nW 30)] 330 34782), (35489, .row [(nI 0), (nW 1), (nI 2), (nI 0), (.bool false), (.bool false)] 139 35489), (34795, .row [(nI 100), (nI 100), (nI 10), (nI 8), (nI 7), (nI 8), (nI 20), (nW 50000000), (nW 3), (nI 50), (nW 100000000), (nI 3), (.pointer none), (.pointer none), (.pointer none), (.pointer none), (.pointer none), (.pointer none), (.pointer none), (.pointer none), (.pointer none), (.pointer none), (.pointer none), (.pointer none), (.pointer none), (.pointer none), (.pointer none), (.pointer none), (.pointer none), (.pointer none), (.pointer none), (.pointer none), (.pointer none), (.pointer none), (.pointer none), (.pointer none), (.pointer none), (.pointer none), (.pointer none), (.pointer none), (.pointer none), (.pointer none), (.pointer none), (.pointer none)] 229 0), (34798, .row [(nW 0), (nW 0)] 22 34798)]
  fpost := [(34798, [34798]), (35489, [35489]), (34782, [34782]), (34780, [34780]), (34778, [34778])]
  next' := 38466
theorem fine10 : T10.fine = true := by kernel_rfl
theorem trun10 (t : Nat → TypeId) : tplOk T10 ((jRunN CM 200).1 64 T10.args (T10.start lows t)) = true := by kernel_rfl
theorem good10 : TplGood Tryz.prog lows 64 T10 := ⟨fine10, CM, 200, cm_ok, trun10⟩
end Go.Ax

set_option maxRecDepth 1000000
set_option maxHeartbeats 4000000
namespace Go.Ax
open Go Go.Proofs
noncomputable def T11 : Tpl where
  bits := 16
  next := 38689
  args := [(nP 22743 0)]
  pre := [(34798, .row [(nW 0), (nW 0)] 22 34798), (34795, .row [(nI 100), (nI 100), (nI 10), (nI 8), (nI 7), (nI 8), (nI 20), (nW 50000000), (nW 3), (nI 50), (nW 100000000), (nI 3), (.pointer none), (.pointer none), (.pointer none), (.pointer none), (.pointer none), (.pointer none), (.pointer none), (.pointer none), (.pointer none), (.pointer none), (.pointer none), (.pointer none), (.pointer none), (.pointer none), (.pointer none), (.pointer none), (.pointer none), (.pointer none), (.pointer none), (.pointer none), (.pointer none), (.pointer none), (.pointer none), (.pointer none), (.pointer none), (.pointer none), (.pointer none), (.pointer none), (.pointer none), (.pointer none), (.pointer none), (.pointer none)] 229 0), (35489, .row [(nI 0), (nW 1), (nI 2), (nI 0), (.bool false), (.bool false)] 139 35489), (34782, .row [(nI 0), (nI 0), (nI 1), (.int .i64 (Int.negSucc 0)), (nI 0), (nW 50), (nI 1), (nI 0), (nI 1), (.int .i64 (Int.negSucc 0)), (nI 0), (nW 30)] 330 34782), (34780, .row [(nI 0), (nI 1), (.int .i64 (Int.negSucc 0)), (nI 0), (nW 80), (nW 80)] 327 34780), (34778, .row [(nW 50), (nW 70)] 22 34778), (34785, .row [(nI 100), (nI 100), (nI 10), (nI 8), (nI 7), (nI 8), (nI 20), (nW 50000000), (nW 3), (nI 50), (nW 100000000), (nI 3), (nS 34778 0 2), (nW 80), (nW 0), (nW 0), (nW 0), (nS 34780 0 1), (nS 34782 0 2), (.slice none 0 0), (.slice none 0 0), (nS 35489 0 1), (.bool true)] 223 0), (22743, .row [(nP 34785 0), (nP 34795 0), (.slice none 0 0), (nS 34798 0 2), (.slice none 0 0)] 162 0)]
  fpre := [(34778, [34778]), (34780, [34780]), (34782, [34782]), (35489, [35489]), (34798, [34798])]
  val := (.agg ⟨[(nB 101), (nB 15), (nB 172), (nB 242), (nB 57), (nB 18), (nB 150), (nB 7), (nB 151), (nB 131), (nB 2), (nB 24), (nB 116), (nB 238), (nB 11), (nB 42), (nB 201), (nB 166), (nB 188), (nB 121), (nB 225), (nB 233), (nB 159), (nB 148), (nB 42), (nB 239), (nB 199), (nB 46), (nB 176), (nB 205), (nB 168), (nB 116)]⟩)
  post := [(22743, .row [(nP 34785 0), (nP 34795 0), (.slice none 0 0), (nS 34798 0 2), (.slice none 0 0)] 162 0), (34785, .row [(nI 100), (nI 100), (nI 10), (nI 8), (nI 7), (nI 8), (nI 20), (nW 50000000), (nW 3), (nI 50), (nW 100000000), (nI 3), (nS 34778 0 2), (nW 80), (nW 0), (nW 0), (nW 0), (nS 34780 0 1), (nS 34782 0 2), (.slice none 0 0), (.slice none 0 0), (nS 35489 0 1), (.bool true)] 223 0), (34778, .row [(nW 50), (nW 70)] 22 34778), (34780, .row [(nI 0), (nI 1), (.int .i64 (Int.negSucc 0)), (nI 0), (nW 80), (nW 80)] 327 34780), (34782, .row [(nI 0), (nI 0), (nI 1), (.int .i64 (Int.negSucc 0)), (nI 0), (nW 50), (nI 1), (nI 0), (nI 1), (.int .i64 (Int.negSucc 0)), (nI 0), (nW 30)] 330 34782), (35489, .row [(nI 0), (nW 1), (nI 2), (nI 0), (.bool false), (.bool false)] 139 35489), (34795, .row [(nI 100), (nI 100), (nI 10), (nI 8), (nI 7), (nI 8), (nI 20), (nW 50000000), (nW 3), (nI 50), (nW 100000000), (nI 3), (.pointer none), (.pointer none), (.pointer none), (.pointer none), (.pointer none), (.pointer none), (.pointer none), (.pointer none), (.pointer none), (.pointer none), (.pointer none), (.pointer none), (.pointer none), (.pointer none), (.pointer none), (.pointer none), (.pointer none), (.pointer none), (.pointer none), (.pointer none), (.pointer none), (.pointer none), (.pointer none), (.pointer none), (.pointer none), (.pointer none), (.pointer none), (.pointer none), (.pointer none), (.pointer none), (.pointer none), (.pointer none)] 229 0), (34798, .row [(nW 0), (nW 0)] 22 34798)]
  fpost := [(34798, [34798]), (35489, [35489]), (34782, [34782]), (34780, [34780]), (34778, [34778])]
  next' := 41623
theorem fine11 : T11.fine = true := by kernel_rfl
theorem trun11 (t : Nat → TypeId) : tplOk T11 ((jRunN CM 200).1 64 T11.args (T11.start lows t)) = true := by kernel_rfl
theorem good11 : TplGood Tryz.prog lows 64 T11 := ⟨fine11, CM, 200, cm_ok, trun11⟩
end Go.Ax

set_option maxRecDepth 1000000
set_option maxHeartbeats 4000000
namespace Go.Ax
open Go Go.Proofs
noncomputable def T13 : Tpl where
  bits := 16
  next := 41624
  args := [(nP 22774 0)]
  pre := [(22793, .row [(nW 0), (nW 0)] 22 22793), (22790, .row [(nI 100), (nI 100), (nI 10), (nI 8), (nI 7), (nI 8), (nI 20), (nW 50000000), (nW 3), (nI 50), (nW 100000000), (nI 1), (.pointer none), (.pointer none), (.pointer none), (.pointer none), (.pointer none), (.pointer none), (.pointer none), (.pointer none), (.pointer none), (.pointer none), (.pointer none), (.pointer none), (.pointer none), (.pointer none), (.pointer none), (.pointer none), (.pointer none), (.pointer none), (.pointer none), (.pointer none), (.pointer none), (.pointer none), (.pointer none), (.pointer none), (.pointer none), (.pointer none), (.pointer none), (.pointer none), (.pointer none), (.pointer none), (.pointer none), (.pointer none)] 229 0), (22779, .row [(nW 100), (nW 100)] 22 22779), (22780, .row [(nI 100), (nI 100), (nI 10), (nI 8), (nI 7), (nI 8), (nI 20), (nW 50000000), (nW 3), (nI 50), (nW 100000000), (nI 1), (nS 22779 0 2), (nW 0), (nW 0), (nW 0), (nW 0), (.slice none 0 0), (.slice none 0 0), (.slice none 0 0), (.slice none 0 0), (.slice none 0 0), (.bool true)] 223 0), (22774, .row [(nP 22780 0), (nP 22790 0), (.slice none 0 0), (nS 22793 0 2), (.slice none 0 0)] 162 0)]
  fpre := [(22779, [22779]), (22793, [22793])]
  val := (.agg ⟨[(nB 171), (nB 237), (nB 94), (nB 30), (nB 156), (nB 237), (nB 129), (nB 185), (nB 253), (nB 144), (nB 240), (nB 197), (nB 164), (nB 105), (nB 115), (nB 241), (nB 210), (nB 225), (nB 193), (nB 4), (nB 232), (nB 145), (nB 50), (nB 160), (nB 194), (nB 241), (nB 222), (nB 161), (nB 44), (nB 243), (nB 94), (nB 119)]⟩)
  post := [(22774, .row [(nP 22780 0), (nP 22790 0), (.slice none 0 0), (nS 22793 0 2), (.slice none 0 0)] 162 0), (22780, .row [(nI 100), (nI 100), (nI 10), (nI 8), (nI 7), (nI 8), (nI 20), (nW 50000000), (nW 3), (nI 50), (nW 100000000), (nI 1), (nS 22779 0 2), (nW 0), (nW 0), (nW 0), (nW 0), (.slice none 0 0), (.slice none 0 0), (.slice none 0 0), (.slice none 0 0), (.slice none 0 0), (.bool true)] 223 0), (22779, .row [(nW 100), (nW 100)] 22 22779), (22790, .row [(nI 100), (nI 100), (nI 10), (nI 8), (nI 7), (nI 8), (nI 20), (nW 50000000), (nW 3), (nI 50), (nW 100000000), (nI 1), (.pointer none), (.pointer none), (.pointer none), (.pointer none), (.pointer none), (.pointer none), (.pointer none), (.pointer none), (.pointer none), (.pointer none), (.pointer none), (.pointer none), (.pointer none), (.pointer none), (.pointer none), (.pointer none), (.pointer none), (.pointer none), (.pointer none), (.pointer none), (.pointer none), (.pointer none), (.pointer none), (.pointer none), (.pointer none), (.pointer none), (.pointer none), (.pointer none), (.pointer none), (.pointer none), (.pointer none), (.pointer none)] 229 0), (22793, .row [(nW 0), (nW 0)] 22 22793)]
  fpost := [(22793, [22793]), (22779, [22779])]
  next' := 43602
theorem fine13 : T13.fine = true := by kernel_rfl
theorem trun13 (t : Nat → TypeId) : tplOk T13 ((jRunN CM 200).1 64 T13.args (T13.start lows t)) = true := by kernel_rfl
theorem good13 : TplGood Tryz.prog lows 64 T13 := ⟨fine13, CM, 200, cm_ok, trun13⟩
end Go.Ax

