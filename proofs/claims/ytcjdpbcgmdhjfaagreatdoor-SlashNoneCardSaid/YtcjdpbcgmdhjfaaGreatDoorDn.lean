/-
  SlashNone returns true at every offence and reporter, and what its caller can read reads as it did. Under the row's own conditions alone. The way: an executor of the program's code, proved right against the model, run by the kernel.
-/
import Derived.Test.YtcjdpbcgmdhjfaaGreatDoorDl
import Derived.Test.YtcjdpbcgmdhjfaaGreatDoorDm
namespace Go.Proofs.YtcjdpbcgmdhjfaaGreatDoor
open Go.ChangeShapes Go.WideShapes Go.ChangeAt Go.RowKit
namespace SlashNone
theorem ws89 : Tryz.prog.wantsStandIn 89 = false := by kernel_rfl
theorem ws3 : Tryz.prog.wantsStandIn 3 = false := by kernel_rfl

theorem plain (f : FuncId) (fn : Func) (hf : Tryz.pinned.checked.prog.funcNamed "distraint/distraintlaw25.SlashNone" = some f) (hfn : Tryz.pinned.checked.prog.funcs[f]? = some fn) :
    true = Tryz.pinned.checked.prog.looks [] ∧ ∀ (j : Nat) t, fn.params[j]? = some t → Tryz.pinned.checked.prog.wantsStandIn t = false := by
  obtain rfl : f = 5 := Option.some.inj ((show Tryz.prog.funcNamed "distraint/distraintlaw25.SlashNone" = some 5 by kernel_rfl).symm.trans hf) |>.symm
  obtain rfl : fn = Tryz.f5 := (Option.some.inj (Tryz.func5.symm.trans hfn)).symm
  refine ⟨looks_ok, fun j t ht => ?_⟩
  rw [Tryz.params5] at ht
  match j, ht with
  | 0, ht => obtain rfl : 89 = t := by simpa using ht
             exact ws89
  | 1, ht => obtain rfl : 3 = t := by simpa using ht
             exact ws3
  | n + 2, ht => simp at ht

theorem wf_ok : Rows.slashNoneRow.wfByText (OpenSpec.ofChange Rows.slashNoneSpec) = true := by kernel_rfl

/-- The card of 'SlashNone'. -/
theorem card : Rows.SlashNoneCardSaid :=
  Claim7.holds_tied_plain_at .later [] _ _ _ _ said (fun _ h => by cases h) wf_ok (fun _ h => by cases h) slashNone_row_tie rfl ⟨rfl, rfl⟩ (by kernel_rfl) rfl plain goes_ok
end SlashNone
end Go.Proofs.YtcjdpbcgmdhjfaaGreatDoor

