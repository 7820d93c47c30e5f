import Derived.Test.YtaplfdajjdbomaaGreatDoorEj
set_option maxRecDepth 1000000
namespace Go.Proofs.YtaplfdajjdbomaaGreatDoor
namespace QueryBack
theorem f1:Rows.queryBackRow.wf (OpenSpec.ofChange (OpenSpec.ofChange Rows.queryBackSpec).bare)=true:=by kernel_rfl
theorem f4:Tryz.f4.params.all (Tryz.prog.readableRec ·)=true:=by kernel_rfl
theorem f5:namedTie Tryz.prog Rows.queryBackRow.named Rows.queryBackSpec.vars=true:=by kernel_rfl
theorem f10:(Rows.queryBackRow.inPlace == Tryz.prog.inPlace 4)=true:=by
 unfold Program.inPlace
 rw [closure_eq]
 kernel_rfl
theorem f11:(Rows.queryBackRow.unfollowed == Tryz.prog.unfollowed 4)=true:=by
 rw [unf]
 kernel_rfl
theorem f12:(Rows.queryBackRow.recurses == Tryz.prog.recurses 4)=true:=by
 rw [rec_ok]
 kernel_rfl
theorem f13:(Rows.queryBackRow.named == Tryz.prog.varsNamed 4)=true:=by
 unfold Program.varsNamed
 rw [closure_eq]
 kernel_rfl
theorem f14:(Rows.queryBackRow.maps == (Tryz.f4.params.toList++Rows.queryBackSpec.plain.varTypes Tryz.prog).any (Tryz.prog.mapsRec ·))=true:=by kernel_rfl
theorem f15:(Rows.queryBackRow.ifaces == (Tryz.f4.params.toList++Rows.queryBackSpec.plain.varTypes Tryz.prog).any (Tryz.prog.ifacesRec ·))=true:=by kernel_rfl
theorem f16:(Rows.queryBackRow.mapsOut == Tryz.prog.mapsAmong Tryz.f4.resultTypes.toList)=true:=by kernel_rfl
theorem f17:(Rows.queryBackRow.loops == (Tryz.f4.params.toList++Rows.queryBackSpec.plain.varTypes Tryz.prog).any (Tryz.prog.loopsFrom ·))=true:=by kernel_rfl
theorem f18:(Rows.queryBackRow.wideKeys == (Tryz.f4.params.toList++Rows.queryBackSpec.plain.varTypes Tryz.prog++Tryz.f4.resultTypes.toList).any (Tryz.prog.wideKeysFrom ·))=true:=by kernel_rfl
theorem f20:Tryz.f4.resultTypes.all (fun t=>Tryz.prog.readableRec t&&decide (t<Tryz.prog.types.size))=true:=by kernel_rfl
theorem f21:(Rows.queryBackRow.ifacesOut == Tryz.f4.resultTypes.toList.any (Tryz.prog.ifacesRec ·))=true:=by kernel_rfl
theorem f22:(Rows.queryBackRow.loopsOut == Tryz.f4.resultTypes.toList.any (Tryz.prog.loopsFrom ·))=true:=by kernel_rfl
theorem f27:(Rows.queryBackRow.lifted == Tryz.prog.liftsFinal)=true:=by kernel_rfl
theorem f28:(Tryz.prog.make == some Rows.queryBackRow.make)=true:=by kernel_rfl
theorem f29:(Rows.queryBackRow.kinds == (if Rows.queryBackRow.domain.isEmpty then [] else Tryz.f4.params.toList.map fun t=>match Tryz.prog.underlying t with|some (.int k)=>some k|_=>none))=true:=by kernel_rfl
theorem f31:(Rows.queryBackRow.veiled == (Tryz.f4.params.toList++Rows.queryBackSpec.plain.varTypes Tryz.prog++Tryz.f4.resultTypes.toList).any (Tryz.prog.veiledRec ·))=true:=by kernel_rfl
theorem f32:Rows.queryBackRow.veiledFits Tryz.prog Tryz.f4.params.toList (Tryz.f4.params.toList++Rows.queryBackSpec.plain.varTypes Tryz.prog++Tryz.f4.resultTypes.toList)=true:=by kernel_rfl
set_option maxRecDepth 1000000 in
theorem closed:joinedFacts Tryz.prog 4 Tryz.f4 (OpenSpec.ofChange Rows.queryBackSpec).bare Rows.queryBackRow=true:=
 band (band (band (band (band (band (band (band (band (band (band (band (band (band (band (band (band (band (band (band (band (band (band (band (band (band (band (band (band (band (band
  f1 laidOut) mapsRowed_ok) f4) f5) rfl) stopsNone) rfl) knobsNone) f10) f11) f12) f13) f14) f15) f16) f17) f18) rfl) f20) f21) f22) plainKeys_ok) rfl) stopsHeard_ok) mayEnter_ok) f27) f28) f29) rfl) f31) f32
end QueryBack
end Go.Proofs.YtaplfdajjdbomaaGreatDoor
