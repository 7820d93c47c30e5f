/-
  The card of AuditNone: for every message and every error the statement AuditNone returns true, whenever the program runs. Its condition: the package variables that its row lists start as the row lists them. Under the row's own conditions alone. The way: an executor of the program's code, proved right against the model, run by the kernel.
-/
import Derived.Test.YtppfgklggjffiaaGreatDoorEh
import Derived.Test.YtppfgklggjffiaaGreatDoorEm
import Derived.Test.YtppfgklggjffiaaGreatDoorEn
namespace Go.Proofs.YtppfgklggjffiaaGreatDoor
open Go.ChangeShapes Go.WideShapes Go.ChangeAt Go.RowKit
namespace AuditNone
theorem ws32 : Tryz.prog.wantsStandIn 32 = false := by kernel_rfl
theorem ws33 : Tryz.prog.wantsStandIn 33 = false := by kernel_rfl

theorem plain (f : FuncId) (fn : Func) (hf : Tryz.pinned.checked.prog.funcNamed "distraint/distraintlaw29.AuditNone" = some f) (hfn : Tryz.pinned.checked.prog.funcs[f]? = some fn) :
    true = Tryz.pinned.checked.prog.looks [] ∧ ∀ (j : Nat) t, fn.params[j]? = some t → Tryz.pinned.checked.prog.wantsStandIn t = false := by
  obtain rfl : f = 3 := Option.some.inj ((show Tryz.prog.funcNamed "distraint/distraintlaw29.AuditNone" = some 3 by kernel_rfl).symm.trans hf) |>.symm
  obtain rfl : fn = Tryz.f3 := (Option.some.inj (Tryz.func3.symm.trans hfn)).symm
  refine ⟨looks_ok, fun j t ht => ?_⟩
  rw [Tryz.params3] at ht
  match j, ht with
  | 0, ht => obtain rfl : 32 = t := by simpa using ht
             exact ws32
  | 1, ht => obtain rfl : 33 = t := by simpa using ht
             exact ws33
  | n + 2, ht => simp at ht

theorem wf_ok : Rows.auditNoneRow.wfByText (OpenSpec.ofChange Rows.auditNoneSpec) = true := by kernel_rfl

/-- The card of 'AuditNone'. -/
theorem card : Rows.AuditNoneCardSaid :=
  Claim7.holds_tied_plain_at .later [] _ _ _ _ said (fun _ h => by cases h) wf_ok (fun _ h => by cases h) auditNone_row_tie rfl ⟨rfl, rfl⟩ (by kernel_rfl) rfl plain goes_ok
end AuditNone
end Go.Proofs.YtppfgklggjffiaaGreatDoor

