/-
  StakeNone returns true at every act, and what its caller can read reads as it did. Under the row's own conditions alone. The way: an executor of the program's code, proved right against the model, run by the kernel.
-/
import Derived.Test.YtcjdpbcgmdhjfaaGreatDoorDn
import Derived.Test.YtcjdpbcgmdhjfaaGreatDoorDo
namespace Go.Proofs.YtcjdpbcgmdhjfaaGreatDoor
open Go.ChangeShapes Go.WideShapes Go.ChangeAt Go.RowKit
namespace StakeNone
theorem ws57 : Tryz.prog.wantsStandIn 57 = false := by kernel_rfl

theorem plain (f : FuncId) (fn : Func) (hf : Tryz.pinned.checked.prog.funcNamed "distraint/distraintlaw18.StakeNone" = some f) (hfn : Tryz.pinned.checked.prog.funcs[f]? = some fn) :
    true = Tryz.pinned.checked.prog.looks [] ∧ ∀ (j : Nat) t, fn.params[j]? = some t → Tryz.pinned.checked.prog.wantsStandIn t = false := by
  obtain rfl : f = 4 := Option.some.inj ((show Tryz.prog.funcNamed "distraint/distraintlaw18.StakeNone" = some 4 by kernel_rfl).symm.trans hf) |>.symm
  obtain rfl : fn = Tryz.f4 := (Option.some.inj (Tryz.func4.symm.trans hfn)).symm
  refine ⟨looks_ok, fun j t ht => ?_⟩
  rw [Tryz.params4] at ht
  match j, ht with
  | 0, ht => obtain rfl : 57 = t := by simpa using ht
             exact ws57
  | n + 1, ht => simp at ht

theorem wf_ok : Rows.stakeNoneRow.wfByText (OpenSpec.ofChange Rows.stakeNoneSpec) = true := by kernel_rfl

/-- The card of 'StakeNone'. -/
theorem card : Rows.StakeNoneCardSaid :=
  Claim7.holds_tied_plain_at .later [] _ _ _ _ said (fun _ h => by cases h) wf_ok (fun _ h => by cases h) stakeNone_row_tie rfl ⟨rfl, rfl⟩ (by kernel_rfl) rfl plain goes_ok
end StakeNone
end Go.Proofs.YtcjdpbcgmdhjfaaGreatDoor

