/-
  Proved: the card of EngineNone: engines that are nil, or that nobody made, have nothing, and take nothing: the law returns true at every input, and leaves its arguments as they were. Under the row's own conditions alone. The way: an executor of the program's code, proved right against the model, run by the kernel.
-/
import Derived.Test.YtnhpghifaafnkaaGreatDoorEd
import Derived.Test.YtnhpghifaafnkaaGreatDoorEi
import Derived.Test.YtnhpghifaafnkaaGreatDoorEj
namespace Go.Proofs.YtnhpghifaafnkaaGreatDoor
open Go.ChangeShapes Go.WideShapes Go.ChangeAt Go.RowKit
namespace EngineNone
theorem wsA : Tryz.prog.wantsStandIn 32 = false := by kernel_rfl
theorem wsB : Tryz.prog.wantsStandIn 33 = false := by kernel_rfl

theorem plain (f : FuncId) (fn : Func) (hf : Tryz.pinned.checked.prog.funcNamed "distraint/distraintlaw26.EngineNone" = some f) (hfn : Tryz.pinned.checked.prog.funcs[f]? = some fn) :
    true = Tryz.pinned.checked.prog.looks [] ∧ ∀ (j : Nat) t, fn.params[j]? = some t → Tryz.pinned.checked.prog.wantsStandIn t = false := by
  obtain rfl : f = 3 := Option.some.inj ((show Tryz.prog.funcNamed "distraint/distraintlaw26.EngineNone" = some 3 by kernel_rfl).symm.trans hf) |>.symm
  obtain rfl : fn = Tryz.f3 := (Option.some.inj (Tryz.func3.symm.trans hfn)).symm
  refine ⟨looks_ok, fun j t ht => ?_⟩
  rw [Tryz.params3] at ht
  match j, ht with
  | 0, ht => obtain rfl : 32 = t := by simpa using ht
             exact wsA
  | 1, ht => obtain rfl : 33 = t := by simpa using ht
             exact wsB
  | n + 2, ht => simp at ht

theorem wf_ok : Rows.engineNoneRow.wfByText (OpenSpec.ofChange Rows.engineNoneSpec) = true := by kernel_rfl

/-- The card of 'EngineNone'. -/
theorem card : Rows.EngineNoneCardSaid :=
  Claim7.holds_tied_plain_at .later [] _ _ _ _ said (fun _ h => by cases h) wf_ok (fun _ h => by cases h) engineNone_row_tie rfl ⟨rfl, rfl⟩ (by kernel_rfl) rfl plain goes_ok
end EngineNone
end Go.Proofs.YtnhpghifaafnkaaGreatDoor

