import Derived.Test.YtcjdpbcgmdhjfaaGreatDoorDj
set_option maxRecDepth 1000000
namespace Go.Ax
open Go Go.Proofs
/-- An act of a known kind, the other parts unknown numbers. -/
noncomputable def actV (k : Int) : Value := .agg ⟨[.int .i64 k, .chan (some 1), .chan (some 2), .chan (some 3), .chan (some 4), .chan (some 5), .chan (some 6), .chan (some 7), .chan (some 8), .chan (some 9)]⟩
variable (t : TypeId)
theorem run4_0 : isTrue ((jRunN CC1 200).1 4 [actV 0] (st1 t)) = true := by kernel_rfl
theorem run4_1 : isTrue ((jRunN CC1 200).1 4 [actV 1] (st1 t)) = true := by kernel_rfl
theorem run4_2 : isTrue ((jRunN CC1 200).1 4 [actV 2] (st1 t)) = true := by kernel_rfl
theorem run4_3 : isTrue ((jRunN CC1 200).1 4 [actV 3] (st1 t)) = true := by kernel_rfl
theorem run4_4 : isTrue ((jRunN CC1 200).1 4 [actV 4] (st1 t)) = true := by kernel_rfl
theorem run4_5 : isTrue ((jRunN CC1 200).1 4 [actV 5] (st1 t)) = true := by kernel_rfl
theorem run4_6 : isTrue ((jRunN CC1 200).1 4 [actV 6] (st1 t)) = true := by kernel_rfl
theorem run4_7 : isTrue ((jRunN CC1 200).1 4 [actV 7] (st1 t)) = true := by kernel_rfl
theorem run4_8 : isTrue ((jRunN CC1 200).1 4 [actV 8] (st1 t)) = true := by kernel_rfl
theorem run4_9 : isTrue ((jRunN CC1 200).1 4 [actV 9] (st1 t)) = true := by kernel_rfl
theorem run4_10 (k : Nat) : isTrue ((jRunN CC1 200).1 4 [actV (Int.ofNat (k + 10))] (st1 t)) = true := by kernel_rfl
theorem run4_neg (k : Nat) : isTrue ((jRunN CC1 200).1 4 [actV (Int.negSucc k)] (st1 t)) = true := by kernel_rfl
theorem run4 : ∀ (k : Int), isTrue ((jRunN CC1 200).1 4 [actV k] (st1 t)) = true
  | .ofNat 0 => run4_0 t
  | .ofNat 1 => run4_1 t
  | .ofNat 2 => run4_2 t
  | .ofNat 3 => run4_3 t
  | .ofNat 4 => run4_4 t
  | .ofNat 5 => run4_5 t
  | .ofNat 6 => run4_6 t
  | .ofNat 7 => run4_7 t
  | .ofNat 8 => run4_8 t
  | .ofNat 9 => run4_9 t
  | .ofNat (k + 10) => run4_10 t k
  | .negSucc k => run4_neg t k
theorem calls4 (k a b p n m v s r f : Int) {W : World} (hL : Laid W) :
    Calls Tryz.prog 4 #[.agg #[.int .i64 k, .int .i64 a, .int .i64 b, .int .i64 p, .int .u64 n, .int .u64 m, .int .i64 v, .int .i64 s, .int .i64 r, .int .i64 f]] W fun e w' => e = .returned (.bool true) ∧ RowKit.Below W.heap.size W w' :=
  calls_of_runL cc1_ok (fun t => run4 t k) (cargs := [.agg ⟨[.int .i64 k, .int .i64 a, .int .i64 b, .int .i64 p, .int .u64 n, .int .u64 m, .int .i64 v, .int .i64 s, .int .i64 r, .int .i64 f]⟩])
    (.cons (.agg (.cons (.int _ _) (.cons (.tok _ _ _) (.cons (.tok _ _ _) (.cons (.tok _ _ _) (.cons (.tok _ _ _) (.cons (.tok _ _ _) (.cons (.tok _ _ _) (.cons (.tok _ _ _) (.cons (.tok _ _ _) (.cons (.tok _ _ _) .nil))))))))))) .nil) hL
end Go.Ax

