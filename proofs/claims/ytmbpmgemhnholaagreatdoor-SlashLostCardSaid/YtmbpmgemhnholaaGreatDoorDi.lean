import Derived.Test.YtmbpmgemhnholaaGreatDoorDh
import Derived.Test.YtmbpmgemhnholaaGreatDoorDf
set_option maxRecDepth 1000000
set_option maxHeartbeats 0
namespace Go.Ax
open Go Go.Proofs
noncomputable section
def Fn.out0 (a : Int) (b : Int) (c : Int) : Bool := sel (ltI a b) true (ltI c a)
def outG : List Value → Option Value := fun args => match args with
  | [Value.int IntKind.i64 a, Value.int IntKind.i64 b, Value.int IntKind.i64 c] => some (Value.bool (Fn.out0 a b c))
  | _ => none
theorem out_tree (a : Int) (b : Int) (c : Int) : (runK ⟨1, none, fun _ _ => none, fun _ _ _ _ => none⟩ CB 5).1 41 [Value.int IntKind.i64 a, Value.int IntKind.i64 b, Value.int IntKind.i64 c] noneSt (fun q => some q.1) = sel (ltI a b) (some (Value.bool true)) (some (Value.bool (ltI c a))) := by kernel_rfl
theorem out_run (a : Int) (b : Int) (c : Int) : (runK ⟨1, none, fun _ _ => none, fun _ _ _ _ => none⟩ CB 5).1 41 [Value.int IntKind.i64 a, Value.int IntKind.i64 b, Value.int IntKind.i64 c] noneSt (fun q => some q.1) = some (Value.bool (Fn.out0 a b c)) := by
  rw [out_tree]
  unfold Fn.out0
  cases (ltI a b) with
  | true =>
    rfl
  | false =>
    rfl
theorem out_hrun : ∀ args v, freeAll args = true → outG args = some v → ∃ s1, (runN CB 5).1 41 args noneSt = some (v, s1) := by
  intro args v _ h
  unfold outG at h
  split at h
  · cases h
    exact runN_of_KV (K := ⟨1, none, fun _ _ => none, fun _ _ _ _ => none⟩) (by decide) altOk_none loopsOk_none (out_run _ _ _)
  · cases h

def Fn.within0 (a : Int) (b : Int) (c : Int) : Bool := sel (leI b a) (leI a c) false
def withinG : List Value → Option Value := fun args => match args with
  | [Value.int IntKind.i64 a, Value.int IntKind.i64 b, Value.int IntKind.i64 c] => some (Value.bool (Fn.within0 a b c))
  | _ => none
theorem within_tree (a : Int) (b : Int) (c : Int) : (runK ⟨1, none, fun _ _ => none, fun _ _ _ _ => none⟩ CB 5).1 25 [Value.int IntKind.i64 a, Value.int IntKind.i64 b, Value.int IntKind.i64 c] noneSt (fun q => some q.1) = sel (leI b a) (some (Value.bool (leI a c))) (some (Value.bool false)) := by kernel_rfl
theorem within_run (a : Int) (b : Int) (c : Int) : (runK ⟨1, none, fun _ _ => none, fun _ _ _ _ => none⟩ CB 5).1 25 [Value.int IntKind.i64 a, Value.int IntKind.i64 b, Value.int IntKind.i64 c] noneSt (fun q => some q.1) = some (Value.bool (Fn.within0 a b c)) := by
  rw [within_tree]
  unfold Fn.within0
  cases (leI b a) with
  | true =>
    rfl
  | false =>
    rfl
theorem within_hrun : ∀ args v, freeAll args = true → withinG args = some v → ∃ s1, (runN CB 5).1 25 args noneSt = some (v, s1) := by
  intro args v _ h
  unfold withinG at h
  split at h
  · cases h
    exact runN_of_KV (K := ⟨1, none, fun _ _ => none, fun _ _ _ _ => none⟩) (by decide) altOk_none loopsOk_none (within_run _ _ _)
  · cases h

def Fn.mul640 (x : Nat) (y : Nat) : Nat := ((((((x.div 4294967296).mul (y.div 4294967296)).mod 18446744073709551616).add ((((((x.div 4294967296).mul ((y.mod 18446744073709551616).land 4294967295)).mod 18446744073709551616).add (((((x.mod 18446744073709551616).land 4294967295).mul ((y.mod 18446744073709551616).land 4294967295)).mod 18446744073709551616).div 4294967296)).mod 18446744073709551616).div 4294967296)).mod 18446744073709551616).add ((((((((((x.div 4294967296).mul ((y.mod 18446744073709551616).land 4294967295)).mod 18446744073709551616).add (((((x.mod 18446744073709551616).land 4294967295).mul ((y.mod 18446744073709551616).land 4294967295)).mod 18446744073709551616).div 4294967296)).mod 18446744073709551616).mod 18446744073709551616).land 4294967295).add ((((x.mod 18446744073709551616).land 4294967295).mul (y.div 4294967296)).mod 18446744073709551616)).mod 18446744073709551616).div 4294967296)).mod 18446744073709551616
def Fn.mul641 (x : Nat) (y : Nat) : Nat := (x.mul y).mod 18446744073709551616
def mul64G : List Value → Option Value := fun args => match args with
  | [Value.int IntKind.u64 (Int.ofNat x), Value.int IntKind.u64 (Int.ofNat y)] => some (Value.tuple { toList := [Value.int IntKind.u64 (Int.ofNat (Fn.mul640 x y)), Value.int IntKind.u64 (Int.ofNat (Fn.mul641 x y))] })
  | _ => none
theorem mul64_tree (x : Nat) (y : Nat) : (runK ⟨1, none, fun _ _ => none, fun _ _ _ _ => none⟩ CB 5).1 92 [Value.int IntKind.u64 (Int.ofNat x), Value.int IntKind.u64 (Int.ofNat y)] noneSt (fun q => some q.1) = some (Value.tuple { toList := [Value.int IntKind.u64 (Int.ofNat (((((((x.div 4294967296).mul (y.div 4294967296)).mod 18446744073709551616).add ((((((x.div 4294967296).mul ((y.mod 18446744073709551616).land 4294967295)).mod 18446744073709551616).add (((((x.mod 18446744073709551616).land 4294967295).mul ((y.mod 18446744073709551616).land 4294967295)).mod 18446744073709551616).div 4294967296)).mod 18446744073709551616).div 4294967296)).mod 18446744073709551616).add ((((((((((x.div 4294967296).mul ((y.mod 18446744073709551616).land 4294967295)).mod 18446744073709551616).add (((((x.mod 18446744073709551616).land 4294967295).mul ((y.mod 18446744073709551616).land 4294967295)).mod 18446744073709551616).div 4294967296)).mod 18446744073709551616).mod 18446744073709551616).land 4294967295).add ((((x.mod 18446744073709551616).land 4294967295).mul (y.div 4294967296)).mod 18446744073709551616)).mod 18446744073709551616).div 4294967296)).mod 18446744073709551616)), Value.int IntKind.u64 (Int.ofNat ((x.mul y).mod 18446744073709551616))] }) := by kernel_rfl
theorem mul64_run (x : Nat) (y : Nat) : (runK ⟨1, none, fun _ _ => none, fun _ _ _ _ => none⟩ CB 5).1 92 [Value.int IntKind.u64 (Int.ofNat x), Value.int IntKind.u64 (Int.ofNat y)] noneSt (fun q => some q.1) = some (Value.tuple { toList := [Value.int IntKind.u64 (Int.ofNat (Fn.mul640 x y)), Value.int IntKind.u64 (Int.ofNat (Fn.mul641 x y))] }) := by
  rw [mul64_tree]
  unfold Fn.mul640 Fn.mul641
  rfl
theorem mul64_hrun : ∀ args v, freeAll args = true → mul64G args = some v → ∃ s1, (runN CB 5).1 92 args noneSt = some (v, s1) := by
  intro args v _ h
  unfold mul64G at h
  split at h
  · cases h
    exact runN_of_KV (K := ⟨1, none, fun _ _ => none, fun _ _ _ _ => none⟩) (by decide) altOk_none loopsOk_none (mul64_run _ _)
  · cases h

def Fn.has0 (a : Int) (b : Int) (c : Int) (d : Int) (e : Int) : Bool := sel (!(eqI a 0 && (eqI b 0 && (eqI c 0 && true)))) (sel (eqI a d) (sel (leI b e) (leI e c) false) false) false
def hasG : List Value → Option Value := fun args => match args with
  | [Value.agg { toList := [Value.int IntKind.i64 a, Value.int IntKind.i64 b, Value.int IntKind.i64 c] }, Value.int IntKind.i64 d, Value.int IntKind.i64 e] => some (Value.bool (Fn.has0 a b c d e))
  | _ => none
theorem has_tree (a : Int) (b : Int) (c : Int) (d : Int) (e : Int) : (runK ⟨1, none, fun _ _ => none, fun _ _ _ _ => none⟩ CB 5).1 22 [Value.agg { toList := [Value.int IntKind.i64 a, Value.int IntKind.i64 b, Value.int IntKind.i64 c] }, Value.int IntKind.i64 d, Value.int IntKind.i64 e] noneSt (fun q => some q.1) = sel (!(eqI a 0 && (eqI b 0 && (eqI c 0 && true)))) (sel (eqI a d) (sel (leI b e) (some (Value.bool (leI e c))) (some (Value.bool false))) (some (Value.bool false))) (some (Value.bool false)) := by kernel_rfl
theorem has_run (a : Int) (b : Int) (c : Int) (d : Int) (e : Int) : (runK ⟨1, none, fun _ _ => none, fun _ _ _ _ => none⟩ CB 5).1 22 [Value.agg { toList := [Value.int IntKind.i64 a, Value.int IntKind.i64 b, Value.int IntKind.i64 c] }, Value.int IntKind.i64 d, Value.int IntKind.i64 e] noneSt (fun q => some q.1) = some (Value.bool (Fn.has0 a b c d e)) := by
  rw [has_tree]
  unfold Fn.has0
  cases (!(eqI a 0 && (eqI b 0 && (eqI c 0 && true)))) with
  | true =>
    cases (eqI a d) with
    | true =>
      cases (leI b e) with
      | true =>
        rfl
      | false =>
        rfl
    | false =>
      rfl
  | false =>
    rfl
theorem has_hrun : ∀ args v, freeAll args = true → hasG args = some v → ∃ s1, (runN CB 5).1 22 args noneSt = some (v, s1) := by
  intro args v _ h
  unfold hasG at h
  split at h
  · cases h
    exact runN_of_KV (K := ⟨1, none, fun _ _ => none, fun _ _ _ _ => none⟩) (by decide) altOk_none loopsOk_none (has_run _ _ _ _ _)
  · cases h

def ins1 : List (Nat × Con) := (41, .pure outG) :: (25, .pure withinG) :: (92, .pure mul64G) :: (22, .pure hasG) :: []
def C1 : Cfg := { CB with ext := lookN [], insert := lookN ins1 }
theorem c1_ins : InsOk Tryz.prog C1 ins1 := (InsOk.pure cb_ok out_hrun (InsOk.pure cb_ok within_hrun (InsOk.pure cb_ok mul64_hrun (InsOk.pure cb_ok has_hrun InsOk.nil))))
theorem c1_ok : CfgOk C1 Tryz.prog := cfg_ok (ext := lookN []) (ins := lookN ins1) rfl (fun f t h => c1_ins f t h) (fun f e h => by cases h)
end
end Go.Ax

