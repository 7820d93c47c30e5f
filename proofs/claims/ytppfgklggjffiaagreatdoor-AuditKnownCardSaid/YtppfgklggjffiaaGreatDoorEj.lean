import Derived.Test.YtppfgklggjffiaaGreatDoorEh
set_option maxRecDepth 1000000
namespace Go.Proofs.YtppfgklggjffiaaGreatDoor
namespace AuditKnown
theorem f1 : Rows.auditKnownRow.wf (OpenSpec.ofChange (OpenSpec.ofChange Rows.auditKnownSpec).bare) = true := by kernel_rfl
theorem f4 : Tryz.f4.params.all (Tryz.prog.readableRec ·) = true := by kernel_rfl
theorem f5 : namedTie Tryz.prog Rows.auditKnownRow.named Rows.auditKnownSpec.vars = true := by kernel_rfl
theorem f10 : (Rows.auditKnownRow.inPlace == Tryz.prog.inPlace 4) = true := by
  unfold Program.inPlace
  rw [closure_eq]
  kernel_rfl
theorem f11 : (Rows.auditKnownRow.unfollowed == Tryz.prog.unfollowed 4) = true := by
  rw [unf]
  kernel_rfl
theorem f12 : (Rows.auditKnownRow.recurses == Tryz.prog.recurses 4) = true := by
  rw [rec_ok]
  kernel_rfl
theorem f13 : (Rows.auditKnownRow.named == Tryz.prog.varsNamed 4) = true := by
  unfold Program.varsNamed
  rw [closure_eq]
  kernel_rfl
theorem f14 : (Rows.auditKnownRow.maps == (Tryz.f4.params.toList ++ Rows.auditKnownSpec.plain.varTypes Tryz.prog).any (Tryz.prog.mapsRec ·)) = true := by kernel_rfl
theorem f15 : (Rows.auditKnownRow.ifaces == (Tryz.f4.params.toList ++ Rows.auditKnownSpec.plain.varTypes Tryz.prog).any (Tryz.prog.ifacesRec ·)) = true := by kernel_rfl
theorem f16 : (Rows.auditKnownRow.mapsOut == Tryz.prog.mapsAmong Tryz.f4.resultTypes.toList) = true := by kernel_rfl
theorem f17 : (Rows.auditKnownRow.loops == (Tryz.f4.params.toList ++ Rows.auditKnownSpec.plain.varTypes Tryz.prog).any (Tryz.prog.loopsFrom ·)) = true := by kernel_rfl
theorem f18 : (Rows.auditKnownRow.wideKeys == (Tryz.f4.params.toList ++ Rows.auditKnownSpec.plain.varTypes Tryz.prog ++ Tryz.f4.resultTypes.toList).any (Tryz.prog.wideKeysFrom ·)) = true := by kernel_rfl
theorem f20 : Tryz.f4.resultTypes.all (fun t => Tryz.prog.readableRec t && decide (t < Tryz.prog.types.size)) = true := by kernel_rfl
theorem f21 : (Rows.auditKnownRow.ifacesOut == Tryz.f4.resultTypes.toList.any (Tryz.prog.ifacesRec ·)) = true := by kernel_rfl
theorem f22 : (Rows.auditKnownRow.loopsOut == Tryz.f4.resultTypes.toList.any (Tryz.prog.loopsFrom ·)) = true := by kernel_rfl
theorem f27 : (Rows.auditKnownRow.lifted == Tryz.prog.liftsFinal) = true := by kernel_rfl
theorem f28 : (Tryz.prog.make == some Rows.auditKnownRow.make) = true := by kernel_rfl
theorem f29 : (Rows.auditKnownRow.kinds == (if Rows.auditKnownRow.domain.isEmpty then [] else Tryz.f4.params.toList.map fun t => match Tryz.prog.underlying t with | some (.int k) => some k | _ => none)) = true := by kernel_rfl
theorem f31 : (Rows.auditKnownRow.veiled == (Tryz.f4.params.toList ++ Rows.auditKnownSpec.plain.varTypes Tryz.prog ++ Tryz.f4.resultTypes.toList).any (Tryz.prog.veiledRec ·)) = true := by kernel_rfl
theorem f32 : Rows.auditKnownRow.veiledFits Tryz.prog Tryz.f4.params.toList (Tryz.f4.params.toList ++ Rows.auditKnownSpec.plain.varTypes Tryz.prog ++ Tryz.f4.resultTypes.toList) = true := by kernel_rfl
set_option maxRecDepth 1000000 in
theorem closed : joinedFacts Tryz.prog 4 Tryz.f4 (OpenSpec.ofChange Rows.auditKnownSpec).bare Rows.auditKnownRow = true :=
  band (band (band (band (band (band (band (band (band (band (band (band (band (band (band (band (band (band (band (band (band (band (band (band (band (band (band (band (band (band (band
    f1 laidOut) mapsRowed_ok) f4) f5) rfl) stopsNone) rfl) knobsNone) f10) f11) f12) f13) f14) f15) f16) f17) f18) rfl) f20) f21) f22) plainKeys_ok) rfl) stopsHeard_ok) mayEnter_ok) f27) f28) f29) rfl) f31) f32
end AuditKnown
end Go.Proofs.YtppfgklggjffiaaGreatDoor

