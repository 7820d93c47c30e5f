/-
  The card of BenchKnown: the closed statement BenchKnown returns true whenever the program runs. Its condition: the package variables that its row lists start as the row lists them. Under the row's own conditions alone. The way: an executor of the program's code, proved right against the model, run by the kernel.
-/
import Derived.Test.YtifhpiilobkjiaaGreatDoorEj
import Derived.Test.YtifhpiilobkjiaaGreatDoorEs
import Derived.Test.YtifhpiilobkjiaaGreatDoorEt
namespace Go.Proofs.YtifhpiilobkjiaaGreatDoor
open Go.ChangeShapes Go.WideShapes Go.ChangeAt Go.RowKit
namespace BenchKnown
theorem plain (f : FuncId) (fn : Func) (hf : Tryz.pinned.checked.prog.funcNamed "distraint/distraintlaw32.BenchKnown" = some f) (hfn : Tryz.pinned.checked.prog.funcs[f]? = some fn) :
    true = Tryz.pinned.checked.prog.looks [] ∧ ∀ (j : Nat) t, fn.params[j]? = some t → Tryz.pinned.checked.prog.wantsStandIn t = false := by
  obtain rfl : f = 4 := Option.some.inj ((show Tryz.prog.funcNamed "distraint/distraintlaw32.BenchKnown" = some 4 by kernel_rfl).symm.trans hf) |>.symm
  obtain rfl : fn = Tryz.f4 := (Option.some.inj (Tryz.func4.symm.trans hfn)).symm
  refine ⟨looks_ok, fun j t ht => ?_⟩
  rw [Tryz.params4] at ht
  simp at ht

theorem wf_ok : Rows.benchKnownRow.wfByText (OpenSpec.ofChange Rows.benchKnownSpec) = true := by kernel_rfl

/-- The card of 'BenchKnown'. -/
theorem card : Rows.BenchKnownCardSaid :=
  Claim7.holds_tied_plain_at .later [] _ _ _ _ said (fun _ h => by cases h) wf_ok (fun _ h => by cases h) benchKnown_row_tie rfl ⟨rfl, rfl⟩ (by kernel_rfl) rfl plain goes_ok
end BenchKnown
end Go.Proofs.YtifhpiilobkjiaaGreatDoor

