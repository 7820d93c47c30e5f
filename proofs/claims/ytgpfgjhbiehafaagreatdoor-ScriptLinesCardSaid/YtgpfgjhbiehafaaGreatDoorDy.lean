import Derived.Test.YtgpfgjhbiehafaaGreatDoorDw
set_option maxRecDepth 1000000
namespace Go.Proofs.YtgpfgjhbiehafaaGreatDoor
namespace ScriptLines
theorem f1:Rows.scriptLinesRow.wf (OpenSpec.ofChange (OpenSpec.ofChange Rows.scriptLinesSpec).bare)=true:=by kernel_rfl
theorem f4:Tryz.f3.params.all (Tryz.prog.readableRec ·)=true:=by kernel_rfl
theorem f5:namedTie Tryz.prog Rows.scriptLinesRow.named Rows.scriptLinesSpec.vars=true:=by kernel_rfl
theorem f10:(Rows.scriptLinesRow.inPlace == Tryz.prog.inPlace 3)=true:=by
 unfold Program.inPlace
 rw [closure_eq]
 kernel_rfl
theorem f11:(Rows.scriptLinesRow.unfollowed == Tryz.prog.unfollowed 3)=true:=by
 rw [unf]
 kernel_rfl
theorem f12:(Rows.scriptLinesRow.recurses == Tryz.prog.recurses 3)=true:=by
 rw [rec_ok]
 kernel_rfl
theorem f13:(Rows.scriptLinesRow.named == Tryz.prog.varsNamed 3)=true:=by
 unfold Program.varsNamed
 rw [closure_eq]
 kernel_rfl
theorem f14:(Rows.scriptLinesRow.maps == (Tryz.f3.params.toList++Rows.scriptLinesSpec.plain.varTypes Tryz.prog).any (Tryz.prog.mapsRec ·))=true:=by kernel_rfl
theorem f15:(Rows.scriptLinesRow.ifaces == (Tryz.f3.params.toList++Rows.scriptLinesSpec.plain.varTypes Tryz.prog).any (Tryz.prog.ifacesRec ·))=true:=by kernel_rfl
theorem f16:(Rows.scriptLinesRow.mapsOut == Tryz.prog.mapsAmong Tryz.f3.resultTypes.toList)=true:=by kernel_rfl
theorem f17:(Rows.scriptLinesRow.loops == (Tryz.f3.params.toList++Rows.scriptLinesSpec.plain.varTypes Tryz.prog).any (Tryz.prog.loopsFrom ·))=true:=by kernel_rfl
theorem f18:(Rows.scriptLinesRow.wideKeys == (Tryz.f3.params.toList++Rows.scriptLinesSpec.plain.varTypes Tryz.prog++Tryz.f3.resultTypes.toList).any (Tryz.prog.wideKeysFrom ·))=true:=by kernel_rfl
theorem f20:Tryz.f3.resultTypes.all (fun t=>Tryz.prog.readableRec t&&decide (t<Tryz.prog.types.size))=true:=by kernel_rfl
theorem f21:(Rows.scriptLinesRow.ifacesOut == Tryz.f3.resultTypes.toList.any (Tryz.prog.ifacesRec ·))=true:=by kernel_rfl
theorem f22:(Rows.scriptLinesRow.loopsOut == Tryz.f3.resultTypes.toList.any (Tryz.prog.loopsFrom ·))=true:=by kernel_rfl
theorem f27:(Rows.scriptLinesRow.lifted == Tryz.prog.liftsFinal)=true:=by kernel_rfl
theorem f28:(Tryz.prog.make == some Rows.scriptLinesRow.make)=true:=by kernel_rfl
theorem f29:(Rows.scriptLinesRow.kinds == (if Rows.scriptLinesRow.domain.isEmpty then [] else Tryz.f3.params.toList.map fun t=>match Tryz.prog.underlying t with|some (.int k)=>some k|_=>none))=true:=by kernel_rfl
theorem f31:(Rows.scriptLinesRow.veiled == (Tryz.f3.params.toList++Rows.scriptLinesSpec.plain.varTypes Tryz.prog++Tryz.f3.resultTypes.toList).any (Tryz.prog.veiledRec ·))=true:=by kernel_rfl
theorem f32:Rows.scriptLinesRow.veiledFits Tryz.prog Tryz.f3.params.toList (Tryz.f3.params.toList++Rows.scriptLinesSpec.plain.varTypes Tryz.prog++Tryz.f3.resultTypes.toList)=true:=by kernel_rfl
set_option maxRecDepth 1000000 in
theorem closed:joinedFacts Tryz.prog 3 Tryz.f3 (OpenSpec.ofChange Rows.scriptLinesSpec).bare Rows.scriptLinesRow=true:=
 band (band (band (band (band (band (band (band (band (band (band (band (band (band (band (band (band (band (band (band (band (band (band (band (band (band (band (band (band (band (band
  f1 laidOut) mapsRowed_ok) f4) f5) rfl) stopsNone) rfl) knobsNone) f10) f11) f12) f13) f14) f15) f16) f17) f18) rfl) f20) f21) f22) plainKeys_ok) rfl) stopsHeard_ok) mayEnter_ok) f27) f28) f29) rfl) f31) f32
end ScriptLines
end Go.Proofs.YtgpfgjhbiehafaaGreatDoor
