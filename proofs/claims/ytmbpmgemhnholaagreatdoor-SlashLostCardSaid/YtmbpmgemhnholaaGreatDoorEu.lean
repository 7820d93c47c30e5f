/-
  The card of SlashLost: for every sentence, stamp, height and number of tokens the statement SlashLost returns true. Its condition: the package variable errors.errorType starts as its row lists it. Under the row's own conditions alone. The way: an executor of the program's code, proved right against the model, run by the kernel.
-/
import Derived.Test.YtmbpmgemhnholaaGreatDoorEn
import Derived.Test.YtmbpmgemhnholaaGreatDoorEs
import Derived.Test.YtmbpmgemhnholaaGreatDoorEt
namespace Go.Proofs.YtmbpmgemhnholaaGreatDoor
open Go.ChangeShapes Go.WideShapes Go.ChangeAt Go.RowKit
namespace SlashLost
theorem ws3 : Tryz.prog.wantsStandIn 3 = false := by kernel_rfl
theorem ws24 : Tryz.prog.wantsStandIn 24 = false := by kernel_rfl
theorem ws32 : Tryz.prog.wantsStandIn 32 = false := by kernel_rfl
theorem ws34 : Tryz.prog.wantsStandIn 34 = false := by kernel_rfl

theorem plain (f : FuncId) (fn : Func) (hf : Tryz.pinned.checked.prog.funcNamed "distraint/distraintlaw25.SlashLost" = some f) (hfn : Tryz.pinned.checked.prog.funcs[f]? = some fn) :
    true = Tryz.pinned.checked.prog.looks [] ∧ ∀ (j : Nat) t, fn.params[j]? = some t → Tryz.pinned.checked.prog.wantsStandIn t = false := by
  obtain rfl : f = 3 := Option.some.inj ((show Tryz.prog.funcNamed "distraint/distraintlaw25.SlashLost" = some 3 by kernel_rfl).symm.trans hf) |>.symm
  obtain rfl : fn = Tryz.f3 := (Option.some.inj (Tryz.func3.symm.trans hfn)).symm
  refine ⟨looks_ok, fun j t ht => ?_⟩
  rw [Tryz.params3] at ht
  match j, ht with
  | 0, ht => obtain rfl : 32 = t := by simpa using ht
             exact ws32
  | 1, ht => obtain rfl : 34 = t := by simpa using ht
             exact ws34
  | 2, ht => obtain rfl : 3 = t := by simpa using ht
             exact ws3
  | 3, ht => obtain rfl : 24 = t := by simpa using ht
             exact ws24
  | n + 4, ht => simp at ht

theorem wf_ok : Rows.slashLostRow.wfByText (OpenSpec.ofChange Rows.slashLostSpec) = true := by kernel_rfl

/-- The card of 'SlashLost'. -/
theorem card : Rows.SlashLostCardSaid :=
  Claim7.holds_tied_plain_at .later [] _ _ _ _ said (fun _ h => by cases h) wf_ok (fun _ h => by cases h) slashLost_row_tie rfl ⟨rfl, rfl⟩ (by kernel_rfl) rfl plain goes_ok
end SlashLost
end Go.Proofs.YtmbpmgemhnholaaGreatDoor

