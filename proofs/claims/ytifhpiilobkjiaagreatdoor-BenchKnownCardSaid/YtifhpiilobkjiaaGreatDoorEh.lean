import Derived.Test.YtifhpiilobkjiaaGreatDoorEf
set_option maxRecDepth 1000000
namespace Go.Proofs.YtifhpiilobkjiaaGreatDoor
namespace BenchKnown
theorem f1 : Rows.benchKnownRow.wf (OpenSpec.ofChange (OpenSpec.ofChange Rows.benchKnownSpec).bare) = true := by kernel_rfl
theorem f4 : Tryz.f4.params.all (Tryz.prog.readableRec ·) = true := by kernel_rfl
theorem f5 : namedTie Tryz.prog Rows.benchKnownRow.named Rows.benchKnownSpec.vars = true := by kernel_rfl
theorem f10 : (Rows.benchKnownRow.inPlace == Tryz.prog.inPlace 4) = true := by
  unfold Program.inPlace
  rw [closure_eq]
  kernel_rfl
theorem f11 : (Rows.benchKnownRow.unfollowed == Tryz.prog.unfollowed 4) = true := by
  rw [unf]
  kernel_rfl
theorem f12 : (Rows.benchKnownRow.recurses == Tryz.prog.recurses 4) = true := by
  rw [rec_ok]
  kernel_rfl
theorem f13 : (Rows.benchKnownRow.named == Tryz.prog.varsNamed 4) = true := by
  unfold Program.varsNamed
  rw [closure_eq]
  kernel_rfl
theorem f14 : (Rows.benchKnownRow.maps == (Tryz.f4.params.toList ++ Rows.benchKnownSpec.plain.varTypes Tryz.prog).any (Tryz.prog.mapsRec ·)) = true := by kernel_rfl
theorem f15 : (Rows.benchKnownRow.ifaces == (Tryz.f4.params.toList ++ Rows.benchKnownSpec.plain.varTypes Tryz.prog).any (Tryz.prog.ifacesRec ·)) = true := by kernel_rfl
theorem f16 : (Rows.benchKnownRow.mapsOut == Tryz.prog.mapsAmong Tryz.f4.resultTypes.toList) = true := by kernel_rfl
theorem f17 : (Rows.benchKnownRow.loops == (Tryz.f4.params.toList ++ Rows.benchKnownSpec.plain.varTypes Tryz.prog).any (Tryz.prog.loopsFrom ·)) = true := by kernel_rfl
theorem f18 : (Rows.benchKnownRow.wideKeys == (Tryz.f4.params.toList ++ Rows.benchKnownSpec.plain.varTypes Tryz.prog ++ Tryz.f4.resultTypes.toList).any (Tryz.prog.wideKeysFrom ·)) = true := by kernel_rfl
theorem f20 : Tryz.f4.resultTypes.all (fun t => Tryz.prog.readableRec t && decide (t < Tryz.prog.types.size)) = true := by kernel_rfl
theorem f21 : (Rows.benchKnownRow.ifacesOut == Tryz.f4.resultTypes.toList.any (Tryz.prog.ifacesRec ·)) = true := by kernel_rfl
theorem f22 : (Rows.benchKnownRow.loopsOut == Tryz.f4.resultTypes.toList.any (Tryz.prog.loopsFrom ·)) = true := by kernel_rfl
theorem f27 : (Rows.benchKnownRow.lifted == Tryz.prog.liftsFinal) = true := by kernel_rfl
theorem f28 : (Tryz.prog.make == some Rows.benchKnownRow.make) = true := by kernel_rfl
theorem f29 : (Rows.benchKnownRow.kinds == (if Rows.benchKnownRow.domain.isEmpty then [] else Tryz.f4.params.toList.map fun t => match Tryz.prog.underlying t with | some (.int k) => some k | _ => none)) = true := by kernel_rfl
theorem f31 : (Rows.benchKnownRow.veiled == (Tryz.f4.params.toList ++ Rows.benchKnownSpec.plain.varTypes Tryz.prog ++ Tryz.f4.resultTypes.toList).any (Tryz.prog.veiledRec ·)) = true := by kernel_rfl
theorem f32 : Rows.benchKnownRow.veiledFits Tryz.prog Tryz.f4.params.toList (Tryz.f4.params.toList ++ Rows.benchKnownSpec.plain.varTypes Tryz.prog ++ Tryz.f4.resultTypes.toList) = true := by kernel_rfl
set_option maxRecDepth 1000000 in
theorem closed : joinedFacts Tryz.prog 4 Tryz.f4 (OpenSpec.ofChange Rows.benchKnownSpec).bare Rows.benchKnownRow = true :=
  band (band (band (band (band (band (band (band (band (band (band (band (band (band (band (band (band (band (band (band (band (band (band (band (band (band (band (band (band (band (band
    f1 laidOut) mapsRowed_ok) f4) f5) rfl) stopsNone) rfl) knobsNone) f10) f11) f12) f13) f14) f15) f16) f17) f18) rfl) f20) f21) f22) plainKeys_ok) rfl) stopsHeard_ok) mayEnter_ok) f27) f28) f29) rfl) f31) f32
end BenchKnown
end Go.Proofs.YtifhpiilobkjiaaGreatDoor

