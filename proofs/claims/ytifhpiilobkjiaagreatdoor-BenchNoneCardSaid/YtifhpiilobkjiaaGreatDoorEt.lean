/-
  The card of BenchNone: for every string, BenchNone returns true and the string reads as it did. Its condition: the package variables that its row lists start as the row lists them. Under the row's own conditions alone. The way: an executor of the program's code, proved right against the model, run by the kernel.
-/
import Derived.Test.YtifhpiilobkjiaaGreatDoorEi
import Derived.Test.YtifhpiilobkjiaaGreatDoorEr
import Derived.Test.YtifhpiilobkjiaaGreatDoorEs
namespace Go.Proofs.YtifhpiilobkjiaaGreatDoor
open Go.ChangeShapes Go.WideShapes Go.ChangeAt Go.RowKit
namespace BenchNone
theorem ws9 : Tryz.prog.wantsStandIn 9 = false := by kernel_rfl

theorem plain (f : FuncId) (fn : Func) (hf : Tryz.pinned.checked.prog.funcNamed "distraint/distraintlaw32.BenchNone" = some f) (hfn : Tryz.pinned.checked.prog.funcs[f]? = some fn) :
    true = Tryz.pinned.checked.prog.looks [] ∧ ∀ (j : Nat) t, fn.params[j]? = some t → Tryz.pinned.checked.prog.wantsStandIn t = false := by
  obtain rfl : f = 3 := Option.some.inj ((show Tryz.prog.funcNamed "distraint/distraintlaw32.BenchNone" = some 3 by kernel_rfl).symm.trans hf) |>.symm
  obtain rfl : fn = Tryz.f3 := (Option.some.inj (Tryz.func3.symm.trans hfn)).symm
  refine ⟨looks_ok, fun j t ht => ?_⟩
  rw [Tryz.params3] at ht
  match j, ht with
  | 0, ht => obtain rfl : 9 = t := by simpa using ht
             exact ws9
  | n + 1, ht => simp at ht

theorem wf_ok : Rows.benchNoneRow.wfByText (OpenSpec.ofChange Rows.benchNoneSpec) = true := by kernel_rfl

/-- The card of 'BenchNone'. -/
theorem card : Rows.BenchNoneCardSaid :=
  Claim7.holds_tied_plain_at .later [] _ _ _ _ said (fun _ h => by cases h) wf_ok (fun _ h => by cases h) benchNone_row_tie rfl ⟨rfl, rfl⟩ (by kernel_rfl) rfl plain goes_ok
end BenchNone
end Go.Proofs.YtifhpiilobkjiaaGreatDoor

