import Derived.Test.YtmbpmgemhnholaaGreatDoorDq
set_option maxRecDepth 1000000
set_option maxHeartbeats 0
namespace Go.Ax
open Go Go.Proofs
noncomputable section
def Fn.muldivr0 (a : Nat) (b : Nat) : Nat := sel (Fn.divide1 a b 1000000000) 0 (Fn.divide0 a b 1000000000)
def Fn.muldivr1 (a : Nat) (b : Nat) : Nat := sel (Fn.divide1 a b 1000000000) 12 0
theorem muldivr_tree (a b : Nat) : (runK K0 C6 5).1 26 [Value.int .u64 (Int.ofNat a), Value.int .u64 (Int.ofNat b), Value.int .u64 (Int.ofNat 1000000000)] noneSt (fun q => some q.1) = sel (Fn.divide1 a b 1000000000) (some (Value.tuple { toList := [Value.int IntKind.u64 0, Value.int IntKind.i64 12] })) (some (Value.tuple { toList := [Value.int IntKind.u64 (Int.ofNat (Fn.divide0 a b 1000000000)), Value.int IntKind.i64 0] })) := by kernel_rfl
theorem muldivr_val (a b : Nat) : (runK K0 C6 5).1 26 [Value.int .u64 (Int.ofNat a), Value.int .u64 (Int.ofNat b), Value.int .u64 (Int.ofNat 1000000000)] noneSt (fun q => some q.1) = some (Value.tuple { toList := [Value.int IntKind.u64 (Int.ofNat (Fn.muldivr0 a b)), Value.int IntKind.i64 (Fn.muldivr1 a b)] }) := by
  rw [muldivr_tree]
  unfold Fn.muldivr0 Fn.muldivr1
  cases (Fn.divide1 a b 1000000000) with
  | true =>
    rfl
  | false =>
    rfl

def muldivrG : List Value → Option Value := fun args => match args with
  | [.int .u64 (Int.ofNat a), .int .u64 (Int.ofNat b), .int .u64 (Int.ofNat 1000000000)] => some (Value.tuple { toList := [Value.int IntKind.u64 (Int.ofNat (Fn.muldivr0 a b)), Value.int IntKind.i64 (Fn.muldivr1 a b)] })
  | _ => none
theorem muldivr_hrun : ∀ args v, freeAll args = true → muldivrG args = some v → ∃ s1, (runN C6 5).1 26 args noneSt = some (v, s1) := by
  intro args v _ h
  unfold muldivrG at h
  split at h
  · cases h
    exact runN_of_KV (K := K0) (by decide) altOk_none loopsOk_none (muldivr_val _ _)
  · cases h

theorem sel_same {α : Type} (c : Bool) (x : α) : sel c x x = x := by cases c <;> rfl
theorem muldiv_tree (a b : Nat) (t : Bool) : (runK (K3 t) C6 9).1 23 [Value.int .u64 (Int.ofNat a), Value.int .u64 (Int.ofNat b), Value.int .u64 (Int.ofNat 1000000000)] noneSt (fun q => some q.1) = sel
  (true && (true && (conPureV div64G [.int .u64 (Int.ofNat ((Fn.mul640 a b).mod 1000000000)), .int .u64 (Int.ofNat (Fn.mul641 a b)), .int .u64 (Int.ofNat 1000000000)]).isSome))
  (sel (((Fn.mul640 a b).mod 1000000000).succ.ble 1000000000 && (Fn.mul641 a b).succ.ble 18446744073709551616 && true) (sel (!eqI (Int.ofNat (((Fn.mul640 a b).div 1000000000).mod 18446744073709551616)) 0) (some (Value.tuple { toList := [Value.int IntKind.u64 0, Value.int IntKind.i64 12] })) (some (Value.tuple { toList := [Value.int IntKind.u64 (Int.ofNat (Fn.div64q ((Fn.mul640 a b).mod 1000000000) (Fn.mul641 a b))), Value.int IntKind.i64 0] }))) none) (sel (((Fn.mul640 a b).mod 1000000000).succ.ble 1000000000 && (Fn.mul641 a b).succ.ble 18446744073709551616 && true) (sel (!eqI (Int.ofNat (((Fn.mul640 a b).div 1000000000).mod 18446744073709551616)) 0) (some (Value.tuple { toList := [Value.int IntKind.u64 0, Value.int IntKind.i64 12] })) (some (Value.tuple { toList := [Value.int IntKind.u64 (Int.ofNat (Fn.div64q ((Fn.mul640 a b).mod 1000000000) (Fn.mul641 a b))), Value.int IntKind.i64 0] }))) none) := by kernel_rfl
def Fn.muldiv0 (a b : Nat) : Nat := sel (!eqI (Int.ofNat (((Fn.mul640 a b).div 1000000000).mod 18446744073709551616)) 0) 0 (Fn.div64q ((Fn.mul640 a b).mod 1000000000) (Fn.mul641 a b))
def Fn.muldiv1 (a b : Nat) : Nat := sel (!eqI (Int.ofNat (((Fn.mul640 a b).div 1000000000).mod 18446744073709551616)) 0) 12 0
theorem mul_fits (a b : Nat) : (((Fn.mul640 a b).mod 1000000000).succ.ble 1000000000 && (Fn.mul641 a b).succ.ble 18446744073709551616 && true) = true := by
  have h1 : (Fn.mul640 a b).mod 1000000000 < 1000000000 := Nat.mod_lt _ (by omega)
  have h2 : Fn.mul641 a b < 18446744073709551616 := Nat.mod_lt _ (by omega)
  have e1 : ((Fn.mul640 a b).mod 1000000000).succ.ble 1000000000 = true := Nat.ble_eq_true_of_le h1
  have e2 : (Fn.mul641 a b).succ.ble 18446744073709551616 = true := Nat.ble_eq_true_of_le h2
  rw [e1, e2]
  rfl
theorem muldiv_val (a b : Nat) : (runK (K3 true) C6 9).1 23 [Value.int .u64 (Int.ofNat a), Value.int .u64 (Int.ofNat b), Value.int .u64 (Int.ofNat 1000000000)] noneSt (fun q => some q.1) = some (Value.tuple { toList := [Value.int IntKind.u64 (Int.ofNat (Fn.muldiv0 a b)), Value.int IntKind.i64 (Int.ofNat (Fn.muldiv1 a b))] }) := by
  rw [muldiv_tree, sel_same, mul_fits, sel_true]
  unfold Fn.muldiv0 Fn.muldiv1
  cases (!eqI (Int.ofNat (((Fn.mul640 a b).div 1000000000).mod 18446744073709551616)) 0) with
  | true => rfl
  | false => rfl
def muldivG : List Value → Option Value := fun args => match args with
  | [.int .u64 (Int.ofNat a), .int .u64 (Int.ofNat b), .int .u64 (Int.ofNat 1000000000)] => some (Value.tuple { toList := [Value.int IntKind.u64 (Int.ofNat (Fn.muldiv0 a b)), Value.int IntKind.i64 (Int.ofNat (Fn.muldiv1 a b))] })
  | _ => none
theorem muldiv_hrun : ∀ args v, freeAll args = true → muldivG args = some v → ∃ s1, (runN C6 9).1 23 args noneSt = some (v, s1) := by
  intro args v _ h
  unfold muldivG at h
  split at h
  · cases h
    exact runN_of_KV (K := K3 true) (by decide) (alt64_ok true) loopsOk_none (muldiv_val _ _)
  · cases h
def ins7 : List (Nat × Con) := (23, .pure muldivG) :: (26, .pure muldivrG) :: ins6
def C7 : Cfg := { CB with ext := lookN [], insert := lookN ins7 }
theorem c7_ins : InsOk Tryz.prog C7 ins7 := InsOk.pure c6_ok muldiv_hrun (InsOk.pure c6_ok muldivr_hrun (InsOk.to c6_ins rfl))
theorem c7_ok : CfgOk C7 Tryz.prog := cfg_ok (ext := lookN []) (ins := lookN ins7) rfl (fun f t h => c7_ins f t h) (fun f e h => by cases h)
end
end Go.Ax

