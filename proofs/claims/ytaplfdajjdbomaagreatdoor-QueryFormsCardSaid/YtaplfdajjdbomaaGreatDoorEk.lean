/-
  The card of QueryForms: the statement QueryForms returns true whenever the program runs. Its condition: the package variables that its row lists start as the row lists them. Under the row's own conditions alone. The way: an executor of the program's code, proved right against the model, run by the kernel.
-/
import Derived.Test.YtaplfdajjdbomaaGreatDoorEa
import Derived.Test.YtaplfdajjdbomaaGreatDoorEi
import Derived.Test.YtaplfdajjdbomaaGreatDoorEj
namespace Go.Proofs.YtaplfdajjdbomaaGreatDoor
open Go.ChangeShapes Go.WideShapes Go.ChangeAt Go.RowKit
namespace QueryForms
theorem ws23 : Tryz.prog.wantsStandIn 23 = false := by kernel_rfl
theorem ws27 : Tryz.prog.wantsStandIn 27 = false := by kernel_rfl
theorem ws28 : Tryz.prog.wantsStandIn 28 = false := by kernel_rfl
theorem plain (f : FuncId) (fn : Func) (hf : Tryz.pinned.checked.prog.funcNamed "distraint/distraintlaw27.QueryForms" = some f) (hfn : Tryz.pinned.checked.prog.funcs[f]? = some fn) :
    true = Tryz.pinned.checked.prog.looks [] ∧ ∀ (j : Nat) t, fn.params[j]? = some t → Tryz.pinned.checked.prog.wantsStandIn t = false := by
  obtain rfl : f = 3 := Option.some.inj ((show Tryz.prog.funcNamed "distraint/distraintlaw27.QueryForms" = some 3 by kernel_rfl).symm.trans hf) |>.symm
  obtain rfl : fn = Tryz.f3 := (Option.some.inj (Tryz.func3.symm.trans hfn)).symm
  refine ⟨looks_ok, fun j t ht => ?_⟩
  rw [Tryz.params3] at ht
  match j, ht with
  | 0, ht => obtain rfl : 23 = t := by simpa using ht
             exact ws23
  | 1, ht => obtain rfl : 27 = t := by simpa using ht
             exact ws27
  | 2, ht => obtain rfl : 28 = t := by simpa using ht
             exact ws28
  | n + 3, ht => simp at ht
theorem wf_ok : Rows.queryFormsRow.wfByText (OpenSpec.ofChange Rows.queryFormsSpec) = true := by kernel_rfl
theorem card : Rows.QueryFormsCardSaid :=
  Claim7.holds_tied_plain_at .later [] _ _ _ _ said (fun _ h => by cases h) wf_ok (fun _ h => by cases h) queryForms_row_tie rfl ⟨rfl, rfl⟩ (by kernel_rfl) rfl plain goes_ok
end QueryForms
end Go.Proofs.YtaplfdajjdbomaaGreatDoor
