import Derived.Test.YtfnngiakmmakfaaGreatDoorDp
set_option maxRecDepth 1000000
set_option maxHeartbeats 4000000
namespace Go.Ax
open Go Go.Proofs
noncomputable def T14 : Tpl where
  bits := 16
  next := 47722
  args := [(nP 22774 0)]
  pre := [(47179, .row [(nW 0), (nW 0)] 22 47179), (47176, .row [(nI 100), (nI 100), (nI 10), (nI 8), (nI 7), (nI 8), (nI 20), (nW 50000000), (nW 3), (nI 50), (nW 100000000), (nI 1), (.pointer none), (.pointer none), (.pointer none), (.pointer none), (.pointer none), (.pointer none), (.pointer none), (.pointer none), (.pointer none), (.pointer none), (.pointer none), (.pointer none), (.pointer none), (.pointer none), (.pointer none), (.pointer none), (.pointer none), (.pointer none), (.pointer none), (.pointer none), (.pointer none), (.pointer none), (.pointer none), (.pointer none), (.pointer none), (.pointer none), (.pointer none), (.pointer none), (.pointer none), (.pointer none), (.pointer none), (.pointer none)] 229 0), (47165, .row [(nI 0), (nW 1), (nI 1), (nI 0), (.bool false), (.bool false)] 139 47165), (47706, .row [(nI 0), (nI 0), (nI 1), (.int .i64 (Int.negSucc 0)), (nI 0), (nW 50), (nI 1), (nI 0), (nI 1), (.int .i64 (Int.negSucc 0)), (nI 0), (nW 30)] 330 47445), (47443, .row [(nI 0), (nI 1), (.int .i64 (Int.negSucc 0)), (nI 0), (nW 80), (nW 80)] 327 47443), (47289, .row [(nW 50), (nW 70)] 22 47289), (47166, .row [(nI 100), (nI 100), (nI 10), (nI 8), (nI 7), (nI 8), (nI 20), (nW 50000000), (nW 3), (nI 50), (nW 100000000), (nI 1), (nS 47289 0 2), (nW 80), (nW 0), (nW 0), (nW 0), (nS 47443 0 1), (nS 47706 0 2), (.slice none 0 0), (.slice none 0 0), (nS 47165 0 1), (.bool true)] 223 0), (22774, .row [(nP 47166 0), (nP 47176 0), (.slice none 0 0), (nS 47179 0 2), (.slice none 0 0)] 162 0)]
  fpre := [(47289, [47289]), (47443, [47443]), (47445, [47706]), (47165, [47165]), (47179, [47179])]
  val := (.agg ⟨[(nB 127), (nB 166), (nB 60), (nB 252), (nB 117), (nB 3), (nB 203), (nB 25), (nB 21), (nB 8), (nB 2), (nB 94), (nB 144), (nB 22), (nB 168), (nB 246), (nB 67), (nB 88), (nB 218), (nB 110), (nB 155), (nB 73), (nB 201), (nB 101), (nB 197), (nB 124), (nB 48), (nB 147), (nB 100), (nB 191), (nB 171), (nB 217)]⟩)
  post := [(22774, .row [(nP 47166 0), (nP 47176 0), (.slice none 0 0), (nS 47179 0 2), (.slice none 0 0)] 162 0), (47166, .row [(nI 100), (nI 100), (nI 10), (nI 8), (nI 7), (nI 8), (nI 20), (nW 50000000), (nW 3), (nI 50), (nW 100000000), (nI 1), (nS 47289 0 2), (nW 80), (nW 0), (nW 0), (nW 0), (nS 47443 0 1), (nS 47706 0 2), (.slice none 0 0), (.slice none 0 0), (nS 47165 0 1), (.bool true)] 223 0), (47289, .row [(nW 50), (nW 70)] 22 47289), (47443, .row [(nI 0), (nI 1), (.int .i64 (Int.negSucc 0)), (nI 0), (nW 80), (nW 80)] 327 47443), (47706, .row [(nI 0), (nI 0), (nI 1), (.int .i64 (Int.negSucc 0)), (nI 0), (nW 50), (nI 1), (nI 0), (nI 1), (.int .i64 (Int.negSucc 0)), (nI 0), (nW 30)] 330 47445), (47165, .row [(nI 0), (nW 1), (nI 1), (nI 0), (.bool false), (.bool false)] 139 47165), (47176, .row [(nI 100), (nI 100), (nI 10), (nI 8), (nI 7), (nI 8), (nI 20), (nW 50000000), (nW 3), (nI 50), (nW 100000000), (nI 1), (.pointer none), (.pointer none), (.pointer none), (.pointer none), (.pointer none), (.pointer none), (.pointer none), (.pointer none), (.pointer none), (.pointer none), (.pointer none), (.pointer none), (.pointer none), (.pointer none), (.pointer none), (.pointer none), (.pointer none), (.pointer none), (.pointer none), (.pointer none), (.pointer none), (.pointer none), (.pointer none), (.pointer none), (.pointer none), (.pointer none), (.pointer none), (.pointer none), (.pointer none), (.pointer none), (.pointer none), (.pointer none)] 229 0), (47179, .row [(nW 0), (nW 0)] 22 47179)]
  fpost := [(47179, [47179]), (47165, [47165]), (47445, [47706]), (47443, [47443]), (47289, [47289])]
  next' := 50656
theorem fine14 : T14.fine = true := by kernel_rfl
theorem trun14 (t : Nat → TypeId) : tplOk T14 ((jRunN CM 200).1 64 T14.args (T14.start lows t)) = true := by kernel_rfl
theorem good14 : TplGood Tryz.prog lows 64 T14 := ⟨fine14, CM, 200, cm_ok, trun14⟩
end Go.Ax

set_option maxRecDepth 1000000
set_option maxHeartbeats 4000000
namespace Go.Ax
open Go Go.Proofs
noncomputable def T15 : Tpl where
  bits := 16
  next := 51550
  args := [(nP 22774 0)]
  pre := [(50816, .row [(nW 0), (nW 0)] 22 50816), (50813, .row [(nI 100), (nI 100), (nI 10), (nI 8), (nI 7), (nI 8), (nI 20), (nW 50000000), (nW 3), (nI 50), (nW 100000000), (nI 3), (.pointer none), (.pointer none), (.pointer none), (.pointer none), (.pointer none), (.pointer none), (.pointer none), (.pointer none), (.pointer none), (.pointer none), (.pointer none), (.pointer none), (.pointer none), (.pointer none), (.pointer none), (.pointer none), (.pointer none), (.pointer none), (.pointer none), (.pointer none), (.pointer none), (.pointer none), (.pointer none), (.pointer none), (.pointer none), (.pointer none), (.pointer none), (.pointer none), (.pointer none), (.pointer none), (.pointer none), (.pointer none)] 229 0), (51507, .row [(nI 0), (nW 1), (nI 2), (nI 0), (.bool false), (.bool false)] 139 51507), (50800, .row [(nI 0), (nI 0), (nI 1), (.int .i64 (Int.negSucc 0)), (nI 0), (nW 50), (nI 1), (nI 0), (nI 1), (.int .i64 (Int.negSucc 0)), (nI 0), (nW 30)] 330 50800), (50798, .row [(nI 0), (nI 1), (.int .i64 (Int.negSucc 0)), (nI 0), (nW 80), (nW 80)] 327 50798), (50796, .row [(nW 50), (nW 70)] 22 50796), (50803, .row [(nI 100), (nI 100), (nI 10), (nI 8), (nI 7), (nI 8), (nI 20), (nW 50000000), (nW 3), (nI 50), (nW 100000000), (nI 3), (nS 50796 0 2), (nW 80), (nW 0), (nW 0), (nW 0), (nS 50798 0 1), (nS 50800 0 2), (.slice none 0 0), (.slice none 0 0), (nS 51507 0 1), (.bool true)] 223 0), (22774, .row [(nP 50803 0), (nP 50813 0), (.slice none 0 0), (nS 50816 0 2), (.slice none 0 0)] 162 0)]
  fpre := [(50796, [50796]), (50798, [50798]), (50800, [50800]), (51507, [51507]), (50816, [50816])]
  val := (.agg ⟨[(nB 101), (nB 15), (nB 172), (nB 242), (nB 57), (nB 18), (nB 150), (nB 7), (nB 151), (nB 131), (nB 2), (nB 24), (nB 116), (nB 238), (nB 11), (nB 42), (nB 201), (nB 166), (nB 188), (nB 121), (nB 225), (nB 233), (nB 159), (nB 148), (nB 42), (nB 239), (nB 199), (nB 46), (nB 176), (nB 205), (nB 168), (nB 116)]⟩)
  post := [(22774, .row [(nP 50803 0), (nP 50813 0), (.slice none 0 0), (nS 50816 0 2), (.slice none 0 0)] 162 0), (50803, .row [(nI 100), (nI 100), (nI 10), (nI 8), (nI 7), (nI 8), (nI 20), (nW 50000000), (nW 3), (nI 50), (nW 100000000), (nI 3), (nS 50796 0 2), (nW 80), (nW 0), (nW 0), (nW 0), (nS 50798 0 1), (nS 50800 0 2), (.slice none 0 0), (.slice none 0 0), (nS 51507 0 1), (.bool true)] 223 0), (50796, .row [(nW 50), (nW 70)] 22 50796), (50798, .row [(nI 0), (nI 1), (.int .i64 (Int.negSucc 0)), (nI 0), (nW 80), (nW 80)] 327 50798), (50800, .row [(nI 0), (nI 0), (nI 1), (.int .i64 (Int.negSucc 0)), (nI 0), (nW 50), (nI 1), (nI 0), (nI 1), (.int .i64 (Int.negSucc 0)), (nI 0), (nW 30)] 330 50800), (51507, .row [(nI 0), (nW 1), (nI 2), (nI 0), (.bool false), (.bool false)] 139 51507), (50813, .row [(nI 100), (nI 100), (nI 10), (nI 8), (nI 7), (nI 8), (nI 20), (nW 50000000), (nW 3), (nI 50), (nW 100000000), (nI 3), (.pointer none), (.pointer none), (.pointer none), (.pointer none), (.pointer none), (.pointer none), (.pointer none), (.pointer none), (.pointer none), (.pointer none), (.pointer none), (.pointer none), (.pointer none), (.pointer none), (.pointer none), (.pointer none), (.pointer none), (.pointer none), (.pointer none), (.pointer none), (.pointer none), (.pointer none), (.pointer none), (.pointer none), (.pointer none), (.pointer none), (.pointer none), (.pointer none), (.pointer none), (.pointer none), (.pointer none), (.pointer none)] 229 0), (50816, .row [(nW 0), (nW 0)] 22 50816)]
  fpost := [(50816, [50816]), (51507, [51507]), (50800, [50800]), (50798, [50798]), (50796, [50796])]
  next' := 54484
theorem fine15 : T15.fine = true := by kernel_rfl
theorem trun15 (t : Nat → TypeId) : tplOk T15 ((jRunN CM 200).1 64 T15.args (T15.start lows t)) = true := by kernel_rfl
theorem good15 : TplGood Tryz.prog lows 64 T15 := ⟨fine15, CM, 200, cm_ok, trun15⟩
end Go.Ax

set_option maxRecDepth 1000000
set_option maxHeartbeats 4000000
namespace Go.Ax
open Go Go.Proofs
noncomputable def T17 : Tpl where
  bits := 16
  next := 54757
  args := [(nP 54706 0)]
  pre := [(54710, .row [(nW 0), (nW 0)] 22 54710), (54693, .row [(nI 100), (nI 100), (nI 10), (nI 8), (nI 7), (nI 8), (nI 20), (nW 50000000), (nW 3), (nI 50), (nW 100000000), (nI 1), (.pointer none), (.pointer none), (.pointer none), (.pointer none), (.pointer none), (.pointer none), (.pointer none), (.pointer none), (.pointer none), (.pointer none), (.pointer none), (.pointer none), (.pointer none), (.pointer none), (.pointer none), (.pointer none), (.pointer none), (.pointer none), (.pointer none), (.pointer none), (.pointer none), (.pointer none), (.pointer none), (.pointer none), (.pointer none), (.pointer none), (.pointer none), (.pointer none), (.pointer none), (.pointer none), (.pointer none), (.pointer none)] 229 0), (54690, .row [(nW 100), (nW 100)] 22 54690), (54691, .row [(nI 100), (nI 100), (nI 10), (nI 8), (nI 7), (nI 8), (nI 20), (nW 50000000), (nW 3), (nI 50), (nW 100000000), (nI 1), (nS 54690 0 2), (nW 0), (nW 0), (nW 0), (nW 0), (.slice none 0 0), (.slice none 0 0), (.slice none 0 0), (.slice none 0 0), (.slice none 0 0), (.bool true)] 223 0), (54706, .row [(nP 54691 0), (nP 54693 0), (.slice none 0 0), (nS 54710 0 2), (.slice none 0 0)] 162 0)]
  fpre := [(54690, [54690]), (54710, [54710])]
  val := (.agg ⟨[(nB 171), (nB 237), (nB 94), (nB 30), (nB 156), (nB 237), (nB 129), (nB 185), (nB 253), (nB 144), (nB 240), (nB 197), (nB 164), (nB 105), (nB 115), (nB 241), (nB 210), (nB 225), (nB 193), (nB 4), (nB 232), (nB 145), (nB 50), (nB 160), (nB 194), (nB 241), (nB 222), (nB 161), (nB 44), (nB 243), (nB 94), (nB 119)]⟩)
  post := [(54706, .row [(nP 54691 0), (nP 54693 0), (.slice none 0 0), (nS 54710 0 2), (.slice none 0 0)] 162 0), (54691, .row [(nI 100), (nI 100), (nI 10), (nI 8), (nI 7), (nI 8), (nI 20), (nW 50000000), (nW 3), (nI 50), (nW 100000000), (nI 1), (nS 54690 0 2), (nW 0), (nW 0), (nW 0), (nW 0), (.slice none 0 0), (.slice none 0 0), (.slice none 0 0), (.slice none 0 0), (.slice none 0 0), (.bool true)] 223 0), (54690, .row [(nW 100), (nW 100)] 22 54690), (54693, .row [(nI 100), (nI 100), (nI 10), (nI 8), (nI 7), (nI 8), (nI 20), (nW 50000000), (nW 3), (nI 50), (nW 100000000), (nI 1), (.pointer none), (.pointer none), (.pointer none), (.pointer none), (.pointer none), (.pointer none), (.pointer none), (.pointer none), (.pointer none), (.pointer none), (.pointer none), (.pointer none), (.pointer none), (.pointer none), (.pointer none), (.pointer none), (.pointer none), (.pointer none), (.pointer none), (.pointer none), (.pointer none), (.pointer none), (.pointer none), (.pointer none), (.pointer none), (.pointer none), (.pointer none), (.pointer none), (.pointer none), (.pointer none), (.pointer none), (.pointer none)] 229 0), (54710, .row [(nW 0), (nW 0)] 22 54710)]
  fpost := [(54710, [54710]), (54690, [54690])]
  next' := 56735
theorem fine17 : T17.fine = true := by kernel_rfl
theorem trun17 (t : Nat → TypeId) : tplOk T17 ((jRunN CM 200).1 64 T17.args (T17.start lows t)) = true := by kernel_rfl
theorem good17 : TplGood Tryz.prog lows 64 T17 := ⟨fine17, CM, 200, cm_ok, trun17⟩
end Go.Ax

