import Derived.Test.YtmbpmgemhnholaaGreatDoorDk
import Derived.Test.YtmbpmgemhnholaaGreatDoorDf
set_option maxRecDepth 1000000
set_option maxHeartbeats 0
namespace Go.Ax
open Go Go.Proofs
noncomputable section
def Fn.backedr0 (a : Int) (b : Int) (c : Int) (d : Int) (v : Int) (h : Int) (t : Int) : Bool := sel (!eqI (Int.ofNat (Fn.checkr0 a b c d)) 0) false (sel (ltI v 0) false (sel (eqI v a) (sel (leI b h) (sel (ltI t 1) true (leI h t)) false) (sel (eqI v c) (Fn.within0 h d b) false)))
def backedrG : List Value → Option Value := fun args => match args with
  | [Value.agg { toList := [Value.int IntKind.i64 a, Value.int IntKind.i64 b, Value.int IntKind.i64 c, Value.int IntKind.i64 d] }, Value.int IntKind.i64 v, Value.int IntKind.i64 h, Value.int IntKind.i64 t] => some (Value.bool (Fn.backedr0 a b c d v h t))
  | _ => none
theorem backedr_tree (a : Int) (b : Int) (c : Int) (d : Int) (v : Int) (h : Int) (t : Int) : (runK ⟨1, none, fun _ _ => none, fun _ _ _ _ => none⟩ C3 6).1 9 [Value.agg { toList := [Value.int IntKind.i64 a, Value.int IntKind.i64 b, Value.int IntKind.i64 c, Value.int IntKind.i64 d] }, Value.int IntKind.i64 v, Value.int IntKind.i64 h, Value.int IntKind.i64 t] noneSt (fun q => some q.1) = sel (!eqI (Int.ofNat (Fn.checkr0 a b c d)) 0) (some (Value.bool false)) (sel (ltI v 0) (some (Value.bool false)) (sel (eqI v a) (sel (leI b h) (sel (ltI t 1) (some (Value.bool true)) (some (Value.bool (leI h t)))) (some (Value.bool false))) (sel (eqI v c) (some (Value.bool (Fn.within0 h d b))) (some (Value.bool false))))) := by kernel_rfl
theorem backedr_run (a : Int) (b : Int) (c : Int) (d : Int) (v : Int) (h : Int) (t : Int) : (runK ⟨1, none, fun _ _ => none, fun _ _ _ _ => none⟩ C3 6).1 9 [Value.agg { toList := [Value.int IntKind.i64 a, Value.int IntKind.i64 b, Value.int IntKind.i64 c, Value.int IntKind.i64 d] }, Value.int IntKind.i64 v, Value.int IntKind.i64 h, Value.int IntKind.i64 t] noneSt (fun q => some q.1) = some (Value.bool (Fn.backedr0 a b c d v h t)) := by
  rw [backedr_tree]
  unfold Fn.backedr0
  cases (!eqI (Int.ofNat (Fn.checkr0 a b c d)) 0) with
  | true =>
    rfl
  | false =>
    cases (ltI v 0) with
    | true =>
      rfl
    | false =>
      cases (eqI v a) with
      | true =>
        cases (leI b h) with
        | true =>
          cases (ltI t 1) with
          | true =>
            rfl
          | false =>
            rfl
        | false =>
          rfl
      | false =>
        cases (eqI v c) with
        | true =>
          rfl
        | false =>
          rfl
theorem backedr_hrun : ∀ args v, freeAll args = true → backedrG args = some v → ∃ s1, (runN C3 6).1 9 args noneSt = some (v, s1) := by
  intro args v _ h
  unfold backedrG at h
  split at h
  · cases h
    exact runN_of_KV (K := ⟨1, none, fun _ _ => none, fun _ _ _ _ => none⟩) (by decide) altOk_none loopsOk_none (backedr_run _ _ _ _ _ _ _)
  · cases h

def Fn.backed0 (a : Int) (b : Int) (c : Int) (d : Int) (v : Int) (h : Int) (t : Int) : Bool := sel (!eqI (Int.ofNat (Fn.check0 a b c d)) 0) false (sel (ltI t 1) (sel (ltI c 0) (sel (Fn.has0 a b 9223372036854775807 v h) true false) (sel (Fn.has0 a b 9223372036854775807 v h) true (Fn.has0 c d b v h))) (sel (ltI c 0) (sel (Fn.has0 a b t v h) true false) (sel (Fn.has0 a b t v h) true (Fn.has0 c d b v h))))
def backedG : List Value → Option Value := fun args => match args with
  | [Value.agg { toList := [Value.int IntKind.i64 a, Value.int IntKind.i64 b, Value.int IntKind.i64 c, Value.int IntKind.i64 d] }, Value.int IntKind.i64 v, Value.int IntKind.i64 h, Value.int IntKind.i64 t] => some (Value.bool (Fn.backed0 a b c d v h t))
  | _ => none
theorem backed_tree (a : Int) (b : Int) (c : Int) (d : Int) (v : Int) (h : Int) (t : Int) : (runK ⟨1, none, fun _ _ => none, fun _ _ _ _ => none⟩ C3 6).1 7 [Value.agg { toList := [Value.int IntKind.i64 a, Value.int IntKind.i64 b, Value.int IntKind.i64 c, Value.int IntKind.i64 d] }, Value.int IntKind.i64 v, Value.int IntKind.i64 h, Value.int IntKind.i64 t] noneSt (fun q => some q.1) = sel (!eqI (Int.ofNat (Fn.check0 a b c d)) 0) (some (Value.bool false)) (sel (ltI t 1) (sel (ltI c 0) (sel (Fn.has0 a b 9223372036854775807 v h) (some (Value.bool true)) (some (Value.bool false))) (sel (sel (false || true && (true && eqI b b)) (sel (false || true && (true && eqI d d)) (sel (false || true && (true && eqI c c)) true false) false) false && true) (sel (Fn.has0 a b 9223372036854775807 v h) (some (Value.bool true)) (some (Value.bool (Fn.has0 c d b v h)))) none)) (sel (ltI c 0) (sel (Fn.has0 a b t v h) (some (Value.bool true)) (some (Value.bool false))) (sel (sel (false || true && (true && eqI b b)) (sel (false || true && (true && eqI d d)) (sel (false || true && (true && eqI c c)) true false) false) false && true) (sel (Fn.has0 a b t v h) (some (Value.bool true)) (some (Value.bool (Fn.has0 c d b v h)))) none))) := by kernel_rfl
theorem backed_run (a : Int) (b : Int) (c : Int) (d : Int) (v : Int) (h : Int) (t : Int) : (runK ⟨1, none, fun _ _ => none, fun _ _ _ _ => none⟩ C3 6).1 7 [Value.agg { toList := [Value.int IntKind.i64 a, Value.int IntKind.i64 b, Value.int IntKind.i64 c, Value.int IntKind.i64 d] }, Value.int IntKind.i64 v, Value.int IntKind.i64 h, Value.int IntKind.i64 t] noneSt (fun q => some q.1) = some (Value.bool (Fn.backed0 a b c d v h t)) := by
  rw [backed_tree]
  unfold Fn.backed0
  cases (!eqI (Int.ofNat (Fn.check0 a b c d)) 0) with
  | true =>
    rfl
  | false =>
    cases (ltI t 1) with
    | true =>
      cases (ltI c 0) with
      | true =>
        cases (Fn.has0 a b 9223372036854775807 v h) with
        | true =>
          rfl
        | false =>
          rfl
      | false =>
        rw [show (sel (false || true && (true && eqI b b)) (sel (false || true && (true && eqI d d)) (sel (false || true && (true && eqI c c)) true false) false) false && true) = true from by simp [eqI_self, sel_eq]]
        cases (Fn.has0 a b 9223372036854775807 v h) with
        | true =>
          rfl
        | false =>
          rfl
    | false =>
      cases (ltI c 0) with
      | true =>
        cases (Fn.has0 a b t v h) with
        | true =>
          rfl
        | false =>
          rfl
      | false =>
        rw [show (sel (false || true && (true && eqI b b)) (sel (false || true && (true && eqI d d)) (sel (false || true && (true && eqI c c)) true false) false) false && true) = true from by simp [eqI_self, sel_eq]]
        cases (Fn.has0 a b t v h) with
        | true =>
          rfl
        | false =>
          rfl
theorem backed_hrun : ∀ args v, freeAll args = true → backedG args = some v → ∃ s1, (runN C3 6).1 7 args noneSt = some (v, s1) := by
  intro args v _ h
  unfold backedG at h
  split at h
  · cases h
    exact runN_of_KV (K := ⟨1, none, fun _ _ => none, fun _ _ _ _ => none⟩) (by decide) altOk_none loopsOk_none (backed_run _ _ _ _ _ _ _)
  · cases h

def ins4 : List (Nat × Con) := (9, .pure backedrG) :: (7, .pure backedG) :: ins3
def C4 : Cfg := { CB with ext := lookN [], insert := lookN ins4 }
theorem c4_ins : InsOk Tryz.prog C4 ins4 := (InsOk.pure c3_ok backedr_hrun (InsOk.pure c3_ok backed_hrun (InsOk.to c3_ins rfl)))
theorem c4_ok : CfgOk C4 Tryz.prog := cfg_ok (ext := lookN []) (ins := lookN ins4) rfl (fun f t h => c4_ins f t h) (fun f e h => by cases h)
end
end Go.Ax

