/-
  The card of EngineKnown: the closed statement EngineKnown returns true whenever the program runs. Its condition: the package variables that its row lists start as the row lists them. Under the row's own conditions alone. The way: an executor of the program's code, proved right against the model, run by the kernel.
-/
import Derived.Test.YthghfgcpdblgcaaGreatDoorEq
import Derived.Test.YthghfgcpdblgcaaGreatDoorEy
import Derived.Test.YthghfgcpdblgcaaGreatDoorEz
namespace Go.Proofs.YthghfgcpdblgcaaGreatDoor
open Go.ChangeShapes Go.WideShapes Go.ChangeAt Go.RowKit
namespace EngineKnown
theorem plain (f : FuncId) (fn : Func) (hf : Tryz.pinned.checked.prog.funcNamed "distraint/distraintlaw26.EngineKnown" = some f) (hfn : Tryz.pinned.checked.prog.funcs[f]? = some fn) :
    true = Tryz.pinned.checked.prog.looks [] ∧ ∀ (j : Nat) t, fn.params[j]? = some t → Tryz.pinned.checked.prog.wantsStandIn t = false := by
  obtain rfl : f = 3 := Option.some.inj ((show Tryz.prog.funcNamed "distraint/distraintlaw26.EngineKnown" = some 3 by kernel_rfl).symm.trans hf) |>.symm
  obtain rfl : fn = Tryz.f3 := (Option.some.inj (Tryz.func3.symm.trans hfn)).symm
  refine ⟨looks_ok, fun j t ht => ?_⟩
  rw [Tryz.params3] at ht
  simp at ht
theorem wf_ok : Rows.engineKnownRow.wfByText (OpenSpec.ofChange Rows.engineKnownSpec) = true := by kernel_rfl
theorem card : Rows.EngineKnownCardSaid :=
  Claim7.holds_tied_plain_at .later [] _ _ _ _ said (fun _ h => by cases h) wf_ok (fun _ h => by cases h) engineKnown_row_tie rfl ⟨rfl, rfl⟩ (by kernel_rfl) rfl plain goes_ok
end EngineKnown
end Go.Proofs.YthghfgcpdblgcaaGreatDoor
