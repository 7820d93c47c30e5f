import Derived.Test.YtmbpmgemhnholaaGreatDoorDi
import Derived.Test.YtmbpmgemhnholaaGreatDoorDf
set_option maxRecDepth 1000000
set_option maxHeartbeats 0
namespace Go.Ax
open Go Go.Proofs
noncomputable section
def Fn.noone0 (a : Int) : Bool := Fn.out0 a 0 31
def nooneG : List Value → Option Value := fun args => match args with
  | [Value.int IntKind.i64 a] => some (Value.bool (Fn.noone0 a))
  | _ => none
theorem noone_tree (a : Int) : (runK ⟨1, none, fun _ _ => none, fun _ _ _ _ => none⟩ C1 5).1 39 [Value.int IntKind.i64 a] noneSt (fun q => some q.1) = some (Value.bool (Fn.out0 a 0 31)) := by kernel_rfl
theorem noone_run (a : Int) : (runK ⟨1, none, fun _ _ => none, fun _ _ _ _ => none⟩ C1 5).1 39 [Value.int IntKind.i64 a] noneSt (fun q => some q.1) = some (Value.bool (Fn.noone0 a)) := by
  rw [noone_tree]
  unfold Fn.noone0
  rfl
theorem noone_hrun : ∀ args v, freeAll args = true → nooneG args = some v → ∃ s1, (runN C1 5).1 39 args noneSt = some (v, s1) := by
  intro args v _ h
  unfold nooneG at h
  split at h
  · cases h
    exact runN_of_KV (K := ⟨1, none, fun _ _ => none, fun _ _ _ _ => none⟩) (by decide) altOk_none loopsOk_none (noone_run _)
  · cases h

def Fn.nowhen0 (a : Int) : Bool := Fn.out0 a 1 4294967296
def nowhenG : List Value → Option Value := fun args => match args with
  | [Value.int IntKind.i64 a] => some (Value.bool (Fn.nowhen0 a))
  | _ => none
theorem nowhen_tree (a : Int) : (runK ⟨1, none, fun _ _ => none, fun _ _ _ _ => none⟩ C1 5).1 40 [Value.int IntKind.i64 a] noneSt (fun q => some q.1) = some (Value.bool (Fn.out0 a 1 4294967296)) := by kernel_rfl
theorem nowhen_run (a : Int) : (runK ⟨1, none, fun _ _ => none, fun _ _ _ _ => none⟩ C1 5).1 40 [Value.int IntKind.i64 a] noneSt (fun q => some q.1) = some (Value.bool (Fn.nowhen0 a)) := by
  rw [nowhen_tree]
  unfold Fn.nowhen0
  rfl
theorem nowhen_hrun : ∀ args v, freeAll args = true → nowhenG args = some v → ∃ s1, (runN C1 5).1 40 args noneSt = some (v, s1) := by
  intro args v _ h
  unfold nowhenG at h
  split at h
  · cases h
    exact runN_of_KV (K := ⟨1, none, fun _ _ => none, fun _ _ _ _ => none⟩) (by decide) altOk_none loopsOk_none (nowhen_run _)
  · cases h

def Fn.checkr0 (a : Int) (b : Int) (c : Int) (d : Int) : Nat := sel (!Fn.within0 a 0 31) 3 (sel (!Fn.within0 b 1 4294967296) 3 (sel (!Fn.within0 c (Int.negSucc 0) 31) 3 (sel (!Fn.within0 d 0 4294967296) 3 (sel (eqI c a) 2 (sel (!eqI c (Int.negSucc 0) == eqI d 0) 11 (sel (ltI b d) 9 0))))))
def checkrG : List Value → Option Value := fun args => match args with
  | [Value.agg { toList := [Value.int IntKind.i64 a, Value.int IntKind.i64 b, Value.int IntKind.i64 c, Value.int IntKind.i64 d] }] => some (Value.int IntKind.i64 (Fn.checkr0 a b c d))
  | _ => none
theorem checkr_tree (a : Int) (b : Int) (c : Int) (d : Int) : (runK ⟨1, none, fun _ _ => none, fun _ _ _ _ => none⟩ C1 5).1 24 [Value.agg { toList := [Value.int IntKind.i64 a, Value.int IntKind.i64 b, Value.int IntKind.i64 c, Value.int IntKind.i64 d] }] noneSt (fun q => some q.1) = sel (!Fn.within0 a 0 31) (some (Value.int IntKind.i64 3)) (sel (!Fn.within0 b 1 4294967296) (some (Value.int IntKind.i64 3)) (sel (!Fn.within0 c (Int.negSucc 0) 31) (some (Value.int IntKind.i64 3)) (sel (!Fn.within0 d 0 4294967296) (some (Value.int IntKind.i64 3)) (sel (eqI c a) (some (Value.int IntKind.i64 2)) (sel (!eqI c (Int.negSucc 0) == eqI d 0) (some (Value.int IntKind.i64 11)) (sel (ltI b d) (some (Value.int IntKind.i64 9)) (some (Value.int IntKind.i64 0)))))))) := by kernel_rfl
theorem checkr_run (a : Int) (b : Int) (c : Int) (d : Int) : (runK ⟨1, none, fun _ _ => none, fun _ _ _ _ => none⟩ C1 5).1 24 [Value.agg { toList := [Value.int IntKind.i64 a, Value.int IntKind.i64 b, Value.int IntKind.i64 c, Value.int IntKind.i64 d] }] noneSt (fun q => some q.1) = some (Value.int IntKind.i64 (Fn.checkr0 a b c d)) := by
  rw [checkr_tree]
  unfold Fn.checkr0
  cases (!Fn.within0 a 0 31) with
  | true =>
    rfl
  | false =>
    cases (!Fn.within0 b 1 4294967296) with
    | true =>
      rfl
    | false =>
      cases (!Fn.within0 c (Int.negSucc 0) 31) with
      | true =>
        rfl
      | false =>
        cases (!Fn.within0 d 0 4294967296) with
        | true =>
          rfl
        | false =>
          cases (eqI c a) with
          | true =>
            rfl
          | false =>
            cases (!eqI c (Int.negSucc 0) == eqI d 0) with
            | true =>
              rfl
            | false =>
              cases (ltI b d) with
              | true =>
                rfl
              | false =>
                rfl
theorem checkr_hrun : ∀ args v, freeAll args = true → checkrG args = some v → ∃ s1, (runN C1 5).1 24 args noneSt = some (v, s1) := by
  intro args v _ h
  unfold checkrG at h
  split at h
  · cases h
    exact runN_of_KV (K := ⟨1, none, fun _ _ => none, fun _ _ _ _ => none⟩) (by decide) altOk_none loopsOk_none (checkr_run _ _ _ _)
  · cases h

def ins2 : List (Nat × Con) := (39, .pure nooneG) :: (40, .pure nowhenG) :: (24, .pure checkrG) :: ins1
def C2 : Cfg := { CB with ext := lookN [], insert := lookN ins2 }
theorem c2_ins : InsOk Tryz.prog C2 ins2 := (InsOk.pure c1_ok noone_hrun (InsOk.pure c1_ok nowhen_hrun (InsOk.pure c1_ok checkr_hrun (InsOk.to c1_ins rfl))))
theorem c2_ok : CfgOk C2 Tryz.prog := cfg_ok (ext := lookN []) (ins := lookN ins2) rfl (fun f t h => c2_ins f t h) (fun f e h => by cases h)
end
end Go.Ax

