/-
  The card of ScriptLines: the statement ScriptLines returns true whenever the program runs. Its condition: the package variables that its row lists start as the row lists them. Under the row's own conditions alone. The way: an executor of the program's code, proved right against the model, run by the kernel.
-/
import Derived.Test.YtgpfgjhbiehafaaGreatDoorEb
import Derived.Test.YtgpfgjhbiehafaaGreatDoorEj
import Derived.Test.YtgpfgjhbiehafaaGreatDoorEk
namespace Go.Proofs.YtgpfgjhbiehafaaGreatDoor
open Go.ChangeShapes Go.WideShapes Go.ChangeAt Go.RowKit
namespace ScriptLines
theorem ws48 : Tryz.prog.wantsStandIn 48 = false := by kernel_rfl
theorem plain (f : FuncId) (fn : Func) (hf : Tryz.pinned.checked.prog.funcNamed "distraint/distraintlaw28.ScriptLines" = some f) (hfn : Tryz.pinned.checked.prog.funcs[f]? = some fn) :
    true = Tryz.pinned.checked.prog.looks [] ∧ ∀ (j : Nat) t, fn.params[j]? = some t → Tryz.pinned.checked.prog.wantsStandIn t = false := by
  obtain rfl : f = 3 := Option.some.inj ((show Tryz.prog.funcNamed "distraint/distraintlaw28.ScriptLines" = some 3 by kernel_rfl).symm.trans hf) |>.symm
  obtain rfl : fn = Tryz.f3 := (Option.some.inj (Tryz.func3.symm.trans hfn)).symm
  refine ⟨looks_ok, fun j t ht => ?_⟩
  rw [Tryz.params3] at ht
  match j, ht with
  | 0, ht => obtain rfl : 48 = t := by simpa using ht
             exact ws48
  | n + 1, ht => simp at ht
theorem wf_ok : Rows.scriptLinesRow.wfByText (OpenSpec.ofChange Rows.scriptLinesSpec) = true := by kernel_rfl
theorem card : Rows.ScriptLinesCardSaid :=
  Claim7.holds_tied_plain_at .later [] _ _ _ _ said (fun _ h => by cases h) wf_ok (fun _ h => by cases h) scriptLines_row_tie rfl ⟨rfl, rfl⟩ (by kernel_rfl) rfl plain goes_ok
end ScriptLines
end Go.Proofs.YtgpfgjhbiehafaaGreatDoor
