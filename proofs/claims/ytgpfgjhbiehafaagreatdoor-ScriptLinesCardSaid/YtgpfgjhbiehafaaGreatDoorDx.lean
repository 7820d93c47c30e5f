import Derived.Test.YtgpfgjhbiehafaaGreatDoorDl
import Derived.Test.YtgpfgjhbiehafaaGreatDoorDw
import Derived.Test.YtgpfgjhbiehafaaGreatDoorDd
namespace Go.Proofs.YtgpfgjhbiehafaaGreatDoor
open Go.ChangeShapes Go.WideShapes Go.ChangeAt Go.RowKit
theorem et:Tryz.prog.globalNamed "errors.errorType"=some 1:=by kernel_rfl
theorem rt:(Tryz.prog.cutTypes.find? (·.1 == "internal/reflectlite.rtype")).map (·.2)=some 436:=by kernel_rfl
theorem oneRow:((List.range Tryz.prog.types.size).filter fun t=>Tryz.prog.rowNamed t [101,114,114,111,114])=[86]:=by kernel_rfl
theorem hdl86:typeHandle Tryz.prog 86=Go.Ax.hdl Tryz.prog 86:=by kernel_rfl
theorem laid0_of_met {W:World}(h:laidMetH Tryz.prog [("errors.errorType",Rows.laid_errors_errorType),("internal/strconv.uint64pow10",Rows.laid_internal_strconv_uint64pow10),("math/bits.deBruijn32tab",Rows.laid_math_bits_deBruijn32tab),("math/bits.deBruijn64tab",Rows.laid_math_bits_deBruijn64tab)] W):∃ (t:TypeId) (fz:Nat × Nat),W.heap[1]? = some (.cells #[.iface 436 (.agg #[Go.Ax.hdl Tryz.prog 86])] t fz):=by
 have h':laidMet Tryz.prog [("internal/strconv.uint64pow10",Rows.laid_internal_strconv_uint64pow10),("math/bits.deBruijn32tab",Rows.laid_math_bits_deBruijn32tab),("math/bits.deBruijn64tab",Rows.laid_math_bits_deBruijn64tab)] W∧handlesMet Tryz.prog [("errors.errorType",Rows.laid_errors_errorType)] W:=h
 obtain ⟨name,u,ty,e1,e2,e3,e4,e5⟩:=h'.2 _ (List.mem_singleton.2 rfl)
 have en:name=[101,114,114,111,114]:=(Option.some.inj e1).symm
 subst en
 obtain rfl:=Option.some.inj (rt.symm.trans e2)
 have hm:ty∈(List.range Tryz.prog.types.size).filter fun t=>Tryz.prog.rowNamed t [101,114,114,111,114]:=List.mem_filter.2 ⟨List.mem_range.2 e3,e4⟩
 rw [oneRow] at hm
 obtain rfl:=List.mem_singleton.1 hm
 rw [hdl86] at e5
 simp only [World.var?,et,Option.bind_some] at e5
 split at e5
 ·rename_i cs t fz hc
  have e5:=Option.some.inj e5
  subst e5
  exact ⟨t,fz,hc⟩
 ·cases e5
theorem tb0:Tryz.prog.globalNamed "internal/strconv.uint64pow10"=some 0:=by kernel_rfl
theorem tt0:(Tryz.prog.globals[0]?).map (·.type)=some 294:=by kernel_rfl
theorem ta0:Tryz.prog.underlying 294=some (.array 20 23):=by kernel_rfl
theorem te0:Tryz.prog.underlying 23=some (.int .u64):=by kernel_rfl
theorem tc0:Tryz.prog.cellsOf 23=1:=by kernel_rfl
theorem tn0:Tryz.prog.cellsOf 294=20:=by kernel_rfl
theorem laid1_of_met {W:World}(h:laidMetH Tryz.prog [("errors.errorType",Rows.laid_errors_errorType),("internal/strconv.uint64pow10",Rows.laid_internal_strconv_uint64pow10),("math/bits.deBruijn32tab",Rows.laid_math_bits_deBruijn32tab),("math/bits.deBruijn64tab",Rows.laid_math_bits_deBruijn64tab)] W):∃ (t:TypeId) (fz:Nat × Nat),W.heap[0]? = some (.cells ⟨Go.Ax.adO⟩ t fz):=by
 have h':laidMet Tryz.prog [("internal/strconv.uint64pow10",Rows.laid_internal_strconv_uint64pow10),("math/bits.deBruijn32tab",Rows.laid_math_bits_deBruijn32tab),("math/bits.deBruijn64tab",Rows.laid_math_bits_deBruijn64tab)] W∧handlesMet Tryz.prog [("errors.errorType",Rows.laid_errors_errorType)] W:=h
 obtain ⟨ps,hl,_⟩:=h'.1
 obtain ⟨g,t,cs,fuel,p,q,e1,e2,e3,e4,_,_⟩:=hl
 obtain rfl:=Option.some.inj (tb0.symm.trans e1)
 obtain rfl:=Option.some.inj (tt0.symm.trans e2)
 have h5:=Go.Ax.Ya (ns:=[1,10,100,1000,10000,100000,1000000,10000000,100000000,1000000000,10000000000,100000000000,1000000000000,10000000000000,100000000000000,1000000000000000,10000000000000000,100000000000000000,1000000000000000000,10000000000000000000]) ta0 te0 tc0 tn0 e4
 simp only [World.var?,tb0,Option.bind_some] at e3
 split at e3
 ·rename_i cs' t fz hc
  have e3:=Option.some.inj e3
  subst e3
  refine ⟨t,fz,?_⟩
  rw [hc]
  obtain ⟨l⟩:=cs'
  have h5:l=_:=h5
  rw [h5]
  rfl
 ·cases e3
theorem laid_of_met {W:World}(h:laidMetH Tryz.prog [("errors.errorType",Rows.laid_errors_errorType),("internal/strconv.uint64pow10",Rows.laid_internal_strconv_uint64pow10),("math/bits.deBruijn32tab",Rows.laid_math_bits_deBruijn32tab),("math/bits.deBruijn64tab",Rows.laid_math_bits_deBruijn64tab)] W):Go.Ax.Laid W:=⟨laid0_of_met h,laid1_of_met h⟩
end Go.Proofs.YtgpfgjhbiehafaaGreatDoor
