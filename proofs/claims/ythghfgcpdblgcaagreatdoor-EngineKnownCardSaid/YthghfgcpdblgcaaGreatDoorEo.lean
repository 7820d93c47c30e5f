import Derived.Test.YthghfgcpdblgcaaGreatDoorDk
import Derived.Test.YthghfgcpdblgcaaGreatDoorEn
namespace Go.Proofs.YthghfgcpdblgcaaGreatDoor
open Go.ChangeShapes Go.WideShapes Go.ChangeAt Go.RowKit
theorem et : Tryz.prog.globalNamed "errors.errorType" = some 0 := by kernel_rfl
theorem rt : (Tryz.prog.cutTypes.find? (·.1 == "internal/reflectlite.rtype")).map (·.2) = some 197 := by kernel_rfl
theorem oneRow : ((List.range Tryz.prog.types.size).filter fun t => Tryz.prog.rowNamed t [101, 114, 114, 111, 114]) = [99] := by kernel_rfl
theorem hdl99 : typeHandle Tryz.prog 99 = Go.Ax.hdl Tryz.prog 99 := by kernel_rfl
theorem laid_of_met {W : World} (h : laidMetH Tryz.prog [("errors.errorType", Rows.laid_errors_errorType)] W) : Go.Ax.Laid W := by
  have h' : laidMet Tryz.prog [] W ∧ handlesMet Tryz.prog [("errors.errorType", Rows.laid_errors_errorType)] W := h
  obtain ⟨name, u, ty, e1, e2, e3, e4, e5⟩ := h'.2 _ (List.mem_singleton.2 rfl)
  have en : name = [101, 114, 114, 111, 114] := (Option.some.inj e1).symm
  subst en
  obtain rfl := Option.some.inj (rt.symm.trans e2)
  have hm : ty ∈ (List.range Tryz.prog.types.size).filter fun t => Tryz.prog.rowNamed t [101, 114, 114, 111, 114] := List.mem_filter.2 ⟨List.mem_range.2 e3, e4⟩
  rw [oneRow] at hm
  obtain rfl := List.mem_singleton.1 hm
  rw [hdl99] at e5
  simp only [World.var?, et, Option.bind_some] at e5
  split at e5
  · rename_i cs t fz hc
    have e5 := Option.some.inj e5
    subst e5
    exact ⟨t, fz, hc⟩
  · cases e5
end Go.Proofs.YthghfgcpdblgcaaGreatDoor
