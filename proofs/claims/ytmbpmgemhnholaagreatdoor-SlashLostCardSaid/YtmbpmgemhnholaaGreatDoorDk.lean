import Derived.Test.YtmbpmgemhnholaaGreatDoorDj
import Derived.Test.YtmbpmgemhnholaaGreatDoorDf
set_option maxRecDepth 1000000
set_option maxHeartbeats 0
namespace Go.Ax
open Go Go.Proofs
noncomputable section
def Fn.check0 (a : Int) (b : Int) (c : Int) (d : Int) : Nat := sel (Fn.noone0 a) 3 (sel (Fn.nowhen0 b) 3 (sel (Fn.out0 c (Int.negSucc 0) 31) 3 (sel (Fn.out0 d 0 4294967296) 3 (sel (eqI c a) 2 (sel (!eqI c (Int.negSucc 0) == eqI d 0) 11 (sel (ltI b d) 9 0))))))
def checkG : List Value → Option Value := fun args => match args with
  | [Value.agg { toList := [Value.int IntKind.i64 a, Value.int IntKind.i64 b, Value.int IntKind.i64 c, Value.int IntKind.i64 d] }] => some (Value.int IntKind.i64 (Fn.check0 a b c d))
  | _ => none
theorem check_tree (a : Int) (b : Int) (c : Int) (d : Int) : (runK ⟨6, none, fun _ _ => none, fun _ _ _ _ => none⟩ C2 6).1 20 [Value.agg { toList := [Value.int IntKind.i64 a, Value.int IntKind.i64 b, Value.int IntKind.i64 c, Value.int IntKind.i64 d] }] noneSt (fun q => some q.1) = sel (Fn.noone0 a) (some (Value.int IntKind.i64 3)) (sel (Fn.nowhen0 b) (some (Value.int IntKind.i64 3)) (sel (Fn.out0 c (Int.negSucc 0) 31) (some (Value.int IntKind.i64 3)) (sel (Fn.out0 d 0 4294967296) (some (Value.int IntKind.i64 3)) (sel (eqI c a) (some (Value.int IntKind.i64 2)) (sel (!eqI c (Int.negSucc 0) == eqI d 0) (some (Value.int IntKind.i64 11)) (sel (ltI b d) (some (Value.int IntKind.i64 9)) (some (Value.int IntKind.i64 0)))))))) := by kernel_rfl
theorem check_run (a : Int) (b : Int) (c : Int) (d : Int) : (runK ⟨6, none, fun _ _ => none, fun _ _ _ _ => none⟩ C2 6).1 20 [Value.agg { toList := [Value.int IntKind.i64 a, Value.int IntKind.i64 b, Value.int IntKind.i64 c, Value.int IntKind.i64 d] }] noneSt (fun q => some q.1) = some (Value.int IntKind.i64 (Fn.check0 a b c d)) := by
  rw [check_tree]
  unfold Fn.check0
  cases (Fn.noone0 a) with
  | true =>
    rfl
  | false =>
    cases (Fn.nowhen0 b) with
    | true =>
      rfl
    | false =>
      cases (Fn.out0 c (Int.negSucc 0) 31) with
      | true =>
        rfl
      | false =>
        cases (Fn.out0 d 0 4294967296) with
        | true =>
          rfl
        | false =>
          cases (eqI c a) with
          | true =>
            rfl
          | false =>
            cases (!eqI c (Int.negSucc 0) == eqI d 0) with
            | true =>
              rfl
            | false =>
              cases (ltI b d) with
              | true =>
                rfl
              | false =>
                rfl
theorem check_hrun : ∀ args v, freeAll args = true → checkG args = some v → ∃ s1, (runN C2 6).1 20 args noneSt = some (v, s1) := by
  intro args v _ h
  unfold checkG at h
  split at h
  · cases h
    exact runN_of_KV (K := ⟨6, none, fun _ _ => none, fun _ _ _ _ => none⟩) (by decide) altOk_none loopsOk_none (check_run _ _ _ _)
  · cases h

def ins3 : List (Nat × Con) := (20, .pure checkG) :: ins2
def C3 : Cfg := { CB with ext := lookN [], insert := lookN ins3 }
theorem c3_ins : InsOk Tryz.prog C3 ins3 := (InsOk.pure c2_ok check_hrun (InsOk.to c2_ins rfl))
theorem c3_ok : CfgOk C3 Tryz.prog := cfg_ok (ext := lookN []) (ins := lookN ins3) rfl (fun f t h => c3_ins f t h) (fun f e h => by cases h)
end
end Go.Ax

