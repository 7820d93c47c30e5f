import Derived.Test.YtgpfgjhbiehafaaGreatDoorDq
set_option maxRecDepth 1000000
namespace Go.Proofs.YtgpfgjhbiehafaaGreatDoor
open Go.ChangeShapes Go.WideShapes Go.ChangeAt Go.RowKit Go.Ax
theorem mc0:(List.range' 0 200).all (fun t=>match Tryz.prog.underlying t with|some (.map _ e)=>decide (e<Tryz.prog.types.size)|_=>true)=true:=by kernel_rfl
theorem mc1:(List.range' 200 200).all (fun t=>match Tryz.prog.underlying t with|some (.map _ e)=>decide (e<Tryz.prog.types.size)|_=>true)=true:=by kernel_rfl
theorem mc2:(List.range' 400 200).all (fun t=>match Tryz.prog.underlying t with|some (.map _ e)=>decide (e<Tryz.prog.types.size)|_=>true)=true:=by kernel_rfl
theorem mc3:(List.range' 600 200).all (fun t=>match Tryz.prog.underlying t with|some (.map _ e)=>decide (e<Tryz.prog.types.size)|_=>true)=true:=by kernel_rfl
theorem mc4:(List.range' 800 10).all (fun t=>match Tryz.prog.underlying t with|some (.map _ e)=>decide (e<Tryz.prog.types.size)|_=>true)=true:=by kernel_rfl
theorem mapsRowed_ok:mapsRowed Tryz.prog=true:=by
 have h1:(List.range Tryz.prog.types.size).all (fun t=>match Tryz.prog.underlying t with|some (.map _ e)=>decide (e<Tryz.prog.types.size)|_=>true)=true:=by
  generalize hs:(fun t=>match Tryz.prog.underlying t with|some (.map _ e)=>decide (e<Tryz.prog.types.size)|_=>true)=p
  rw [size_ok]
  subst hs
  exact range_all (fC (k:=800) (m:=10) (fC (k:=600) (m:=200) (fC (k:=400) (m:=200) (fC (k:=200) (m:=200) mc0 mc1) mc2) mc3) mc4)
 exact h1
end Go.Proofs.YtgpfgjhbiehafaaGreatDoor
