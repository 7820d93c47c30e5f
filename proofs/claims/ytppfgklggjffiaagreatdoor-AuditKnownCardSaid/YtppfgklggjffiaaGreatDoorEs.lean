/-
  The card of AuditKnown: the closed statement AuditKnown returns true whenever the program runs. Its condition: the package variables that its row lists start as the row lists them. Under the row's own conditions alone. The way: an executor of the program's code, proved right against the model, run by the kernel.
-/
import Derived.Test.YtppfgklggjffiaaGreatDoorEl
import Derived.Test.YtppfgklggjffiaaGreatDoorEq
import Derived.Test.YtppfgklggjffiaaGreatDoorEr
namespace Go.Proofs.YtppfgklggjffiaaGreatDoor
open Go.ChangeShapes Go.WideShapes Go.ChangeAt Go.RowKit
namespace AuditKnown
theorem plain (f : FuncId) (fn : Func) (hf : Tryz.pinned.checked.prog.funcNamed "distraint/distraintlaw29.AuditKnown" = some f) (hfn : Tryz.pinned.checked.prog.funcs[f]? = some fn) :
    true = Tryz.pinned.checked.prog.looks [] ∧ ∀ (j : Nat) t, fn.params[j]? = some t → Tryz.pinned.checked.prog.wantsStandIn t = false := by
  obtain rfl : f = 4 := Option.some.inj ((show Tryz.prog.funcNamed "distraint/distraintlaw29.AuditKnown" = some 4 by kernel_rfl).symm.trans hf) |>.symm
  obtain rfl : fn = Tryz.f4 := (Option.some.inj (Tryz.func4.symm.trans hfn)).symm
  refine ⟨looks_ok, fun j t ht => ?_⟩
  rw [Tryz.params4] at ht
  simp at ht

theorem wf_ok : Rows.auditKnownRow.wfByText (OpenSpec.ofChange Rows.auditKnownSpec) = true := by kernel_rfl

/-- The card of 'AuditKnown'. -/
theorem card : Rows.AuditKnownCardSaid :=
  Claim7.holds_tied_plain_at .later [] _ _ _ _ said (fun _ h => by cases h) wf_ok (fun _ h => by cases h) auditKnown_row_tie rfl ⟨rfl, rfl⟩ (by kernel_rfl) rfl plain goes_ok
end AuditKnown
end Go.Proofs.YtppfgklggjffiaaGreatDoor

