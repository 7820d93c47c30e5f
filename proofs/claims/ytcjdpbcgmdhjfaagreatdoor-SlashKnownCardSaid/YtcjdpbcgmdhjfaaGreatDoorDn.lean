/-
  SlashKnown returns true at every call (it takes no argument), and what its caller can read reads as it did. Under the row's own conditions alone. The way: an executor of the program's code, proved right against the model, run by the kernel.
-/
import Derived.Test.YtcjdpbcgmdhjfaaGreatDoorDl
import Derived.Test.YtcjdpbcgmdhjfaaGreatDoorDm
namespace Go.Proofs.YtcjdpbcgmdhjfaaGreatDoor
open Go.ChangeShapes Go.WideShapes Go.ChangeAt Go.RowKit
namespace SlashKnown
theorem plain (f : FuncId) (fn : Func) (hf : Tryz.pinned.checked.prog.funcNamed "distraint/distraintlaw25.SlashKnown" = some f) (hfn : Tryz.pinned.checked.prog.funcs[f]? = some fn) :
    true = Tryz.pinned.checked.prog.looks [] ∧ ∀ (j : Nat) t, fn.params[j]? = some t → Tryz.pinned.checked.prog.wantsStandIn t = false := by
  obtain rfl : f = 7 := Option.some.inj ((show Tryz.prog.funcNamed "distraint/distraintlaw25.SlashKnown" = some 7 by kernel_rfl).symm.trans hf) |>.symm
  obtain rfl : fn = Tryz.f7 := (Option.some.inj (Tryz.func7.symm.trans hfn)).symm
  refine ⟨looks_ok, fun j t ht => ?_⟩
  rw [Tryz.params7] at ht
  simp at ht

theorem wf_ok : Rows.slashKnownRow.wfByText (OpenSpec.ofChange Rows.slashKnownSpec) = true := by kernel_rfl

/-- The card of 'SlashKnown'. -/
theorem card : Rows.SlashKnownCardSaid :=
  Claim7.holds_tied_plain_at .later [] _ _ _ _ said (fun _ h => by cases h) wf_ok (fun _ h => by cases h) slashKnown_row_tie rfl ⟨rfl, rfl⟩ (by kernel_rfl) rfl plain goes_ok
end SlashKnown
end Go.Proofs.YtcjdpbcgmdhjfaaGreatDoor

