import Derived.Test.YtgpfgjhbiehafaaGreatDoorDd
import Derived.Test.YtgpfgjhbiehafaaGreatDoorProg
import Derived.ProofKit
import Derived.KernelRfl
import Derived.JoinedCond
import Derived.Deep.DeepHandedRow
set_option maxRecDepth 1000000
namespace Go.Proofs.YtgpfgjhbiehafaaGreatDoor
open Go.ChangeShapes Go.WideShapes Go.ChangeAt Go.RowKit Go.Ax
theorem range_all {p:Nat→Bool}{n:Nat}(h:(List.range' 0 n).all p=true):(List.range n).all p=true:=by rw [List.range_eq_range'];exact h
theorem size_ok:Tryz.prog.types.size=810:=by kernel_rfl
theorem lc0:(List.range' 0 200).all (rowFine Tryz.prog)=true:=by kernel_rfl
theorem lc1:(List.range' 200 200).all (rowFine Tryz.prog)=true:=by kernel_rfl
theorem lc2:(List.range' 400 200).all (rowFine Tryz.prog)=true:=by kernel_rfl
theorem lc3:(List.range' 600 200).all (rowFine Tryz.prog)=true:=by kernel_rfl
theorem lc4:(List.range' 800 10).all (rowFine Tryz.prog)=true:=by kernel_rfl
theorem lg0:Tryz.prog.globals.all (fun g=>decide (g.type<Tryz.prog.types.size))=true:=by kernel_rfl
theorem lg1:Tryz.prog.funcs.all (fun f=>f.params.all fun t=>decide (t<Tryz.prog.types.size))=true:=by kernel_rfl
theorem laidOut:laidOutB Tryz.prog=true:=by
 have h1:(List.range Tryz.prog.types.size).all (rowFine Tryz.prog)=true:=by rw [size_ok];exact range_all (fC (k:=800) (m:=10) (fC (k:=600) (m:=200) (fC (k:=400) (m:=200) (fC (k:=200) (m:=200) lc0 lc1) lc2) lc3) lc4)
 unfold laidOutB
 rw [h1,lg0,lg1]
 rfl
end Go.Proofs.YtgpfgjhbiehafaaGreatDoor
