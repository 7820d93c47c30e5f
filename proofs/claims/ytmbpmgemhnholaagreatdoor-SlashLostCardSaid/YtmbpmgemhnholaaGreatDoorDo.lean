import Derived.Test.YtmbpmgemhnholaaGreatDoorDn
set_option maxRecDepth 1000000
set_option maxHeartbeats 0
namespace Go.Ax
open Go Go.Proofs
noncomputable section
def Fn.wide0 (a : Nat) (b : Nat) : Nat := Fn.wideHi a b 0 0
def Fn.wide1 (a : Nat) (b : Nat) : Nat := Fn.wideLo a b 0 0
theorem wide_tree (a b : Nat) : (runK K1 C4 4).1 94 [Value.int .u64 (Int.ofNat a), Value.int .u64 (Int.ofNat b)] noneSt (fun q => some q.1) = some (Value.tuple { toList := [Value.int IntKind.u64 (Int.ofNat (Fn.wideHi a b 0 0)), Value.int IntKind.u64 (Int.ofNat (Fn.wideLo a b 0 0))] }) := by kernel_rfl
theorem wide_val (a b : Nat) : (runK K1 C4 4).1 94 [Value.int .u64 (Int.ofNat a), Value.int .u64 (Int.ofNat b)] noneSt (fun q => some q.1) = some (Value.tuple { toList := [Value.int IntKind.u64 (Int.ofNat (Fn.wide0 a b)), Value.int IntKind.u64 (Int.ofNat (Fn.wide1 a b))] }) := by
  rw [wide_tree]
  unfold Fn.wide0 Fn.wide1
  rfl

def wideG : List Value → Option Value := fun args => match args with
  | [.int .u64 (Int.ofNat a), .int .u64 (Int.ofNat b)] => some (.tuple ⟨[.int .u64 (Int.ofNat (Fn.wide0 a b)), .int .u64 (Int.ofNat (Fn.wide1 a b))]⟩)
  | _ => none
theorem wide_hrun : ∀ args v, freeAll args = true → wideG args = some v → ∃ s1, (runN C4 4).1 94 args noneSt = some (v, s1) := by
  intro args v _ h
  unfold wideG at h
  split at h
  · cases h
    exact runN_of_KV (K := K1) (by decide) altOk_none k1_loops (wide_val _ _)
  · cases h
def ins5 : List (Nat × Con) := (94, .pure wideG) :: (93, .pure div64G) :: ins4
def C5 : Cfg := { CB with ext := lookN [], insert := lookN ins5 }
theorem c5_ins : InsOk Tryz.prog C5 ins5 := InsOk.pure c4_ok wide_hrun (InsOk.pure cb_ok div64_hrun (InsOk.to c4_ins rfl))
theorem c5_ok : CfgOk C5 Tryz.prog := cfg_ok (ext := lookN []) (ins := lookN ins5) rfl (fun f t h => c5_ins f t h) (fun f e h => by cases h)
end
end Go.Ax

