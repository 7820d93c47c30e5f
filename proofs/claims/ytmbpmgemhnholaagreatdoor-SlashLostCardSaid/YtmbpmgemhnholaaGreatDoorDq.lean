import Derived.Test.YtmbpmgemhnholaaGreatDoorDp
set_option maxRecDepth 1000000
set_option maxHeartbeats 0
namespace Go.Ax
open Go Go.Proofs
noncomputable section
def Fn.divide0 (a : Nat) (b : Nat) (c : Nat) : Nat := Fn.divqn c (Fn.wide0 a b) (Fn.wide1 a b)
def Fn.divide1 (a : Nat) (b : Nat) (c : Nat) : Bool := Fn.divqo c (Fn.wide0 a b) (Fn.wide1 a b)
def Fn.divide2 (a : Nat) (b : Nat) (c : Nat) : Nat := Fn.divql c (Fn.wide0 a b) (Fn.wide1 a b)
theorem divide_tree (a b c : Nat) : (runK K2 C5 5).1 45 [Value.int .u64 (Int.ofNat a), Value.int .u64 (Int.ofNat b), Value.int .u64 (Int.ofNat c)] noneSt (fun q => some q.1) = some (Value.tuple { toList := [Value.int IntKind.u64 (Int.ofNat (Fn.divqn c (Fn.wide0 a b) (Fn.wide1 a b))), Value.bool (Fn.divqo c (Fn.wide0 a b) (Fn.wide1 a b)), Value.int IntKind.u64 (Int.ofNat (Fn.divql c (Fn.wide0 a b) (Fn.wide1 a b)))] }) := by kernel_rfl
theorem divide_val (a b c : Nat) : (runK K2 C5 5).1 45 [Value.int .u64 (Int.ofNat a), Value.int .u64 (Int.ofNat b), Value.int .u64 (Int.ofNat c)] noneSt (fun q => some q.1) = some (Value.tuple { toList := [Value.int IntKind.u64 (Int.ofNat (Fn.divide0 a b c)), Value.bool (Fn.divide1 a b c), Value.int IntKind.u64 (Int.ofNat (Fn.divide2 a b c))] }) := by
  rw [divide_tree]
  unfold Fn.divide0 Fn.divide1 Fn.divide2
  rfl

def divideG : List Value → Option Value := fun args => match args with
  | [.int .u64 (Int.ofNat a), .int .u64 (Int.ofNat b), .int .u64 (Int.ofNat c)] => some (Value.tuple { toList := [Value.int IntKind.u64 (Int.ofNat (Fn.divide0 a b c)), Value.bool (Fn.divide1 a b c), Value.int IntKind.u64 (Int.ofNat (Fn.divide2 a b c))] })
  | _ => none
theorem divide_hrun : ∀ args v, freeAll args = true → divideG args = some v → ∃ s1, (runN C5 5).1 45 args noneSt = some (v, s1) := by
  intro args v _ h
  unfold divideG at h
  split at h
  · cases h
    exact runN_of_KV (K := K2) (by decide) altOk_none k2_loops (divide_val _ _ _)
  · cases h

def ins6 : List (Nat × Con) := (45, .pure divideG) :: ins5
def C6 : Cfg := { CB with ext := lookN [], insert := lookN ins6 }
theorem c6_ins : InsOk Tryz.prog C6 ins6 := InsOk.pure c5_ok divide_hrun (InsOk.to c5_ins rfl)
theorem c6_ok : CfgOk C6 Tryz.prog := cfg_ok (ext := lookN []) (ins := lookN ins6) rfl (fun f t h => c6_ins f t h) (fun f e h => by cases h)
/-! bits.Div64 by a billion: told where its test holds -/
def alt64 : FuncId → List Value → Option (Bool × Value) := fun f args => sel (Nat.beq f 93) (match args with
  | [.int .u64 (Int.ofNat a), .int .u64 (Int.ofNat b), .int .u64 (Int.ofNat c)] =>
    some ((Nat.ble (Nat.succ a) 1000000000 && Nat.ble (Nat.succ b) 18446744073709551616 && Nat.beq c 1000000000), (.tuple ⟨[.int .u64 (Int.ofNat (Fn.div64q a b)), .int .u64 (Int.ofNat (Fn.div64s a b))]⟩))
  | _ => none) none
def K3 (t : Bool) : KP := ⟨1, some t, alt64, fun _ _ _ _ => none⟩
theorem alt64_ok (t : Bool) : AltOk (K3 t) C6 := by
  intro f args c v h hc
  have h0 : alt64 f args = some (c, v) := h
  unfold alt64 at h0
  cases hb : Nat.beq f 93 with
  | false => rw [hb] at h0; cases h0
  | true =>
    rw [hb, sel_true] at h0
    have hf : f = 93 := Nat.eq_of_beq_eq_true hb
    subst hf
    refine ⟨.pure div64G, rfl, fun s => ?_⟩
    split at h0
    · cases h0
      show conPure div64G s _ = _
      unfold conPure conPureV div64G
      show obind (guard true (obind (guard _ _) _)) _ = _
      rw [hc]
      rfl
    · cases h0
end
end Go.Ax

