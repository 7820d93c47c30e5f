import Derived.Test.YtcjdpbcgmdhjfaaGreatDoorDj
namespace Go.Proofs.YtcjdpbcgmdhjfaaGreatDoor
namespace SlashKnown
theorem f1 : Rows.slashKnownRow.wf (OpenSpec.ofChange (OpenSpec.ofChange Rows.slashKnownSpec).bare) = true := by kernel_rfl
theorem f4 : Tryz.f7.params.all (Tryz.prog.readableRec ·) = true := by kernel_rfl
theorem f5 : namedTie Tryz.prog Rows.slashKnownRow.named Rows.slashKnownSpec.vars = true := by kernel_rfl
theorem f10 : (Rows.slashKnownRow.inPlace == Tryz.prog.inPlace 7) = true := by kernel_rfl
theorem f11 : (Rows.slashKnownRow.unfollowed == Tryz.prog.unfollowed 7) = true := by kernel_rfl
theorem f12 : (Rows.slashKnownRow.recurses == Tryz.prog.recurses 7) = true := by kernel_rfl
theorem f13 : (Rows.slashKnownRow.named == Tryz.prog.varsNamed 7) = true := by kernel_rfl
theorem f14 : (Rows.slashKnownRow.maps == (Tryz.f7.params.toList ++ Rows.slashKnownSpec.plain.varTypes Tryz.prog).any (Tryz.prog.mapsRec ·)) = true := by kernel_rfl
theorem f15 : (Rows.slashKnownRow.ifaces == (Tryz.f7.params.toList ++ Rows.slashKnownSpec.plain.varTypes Tryz.prog).any (Tryz.prog.ifacesRec ·)) = true := by kernel_rfl
theorem f16 : (Rows.slashKnownRow.mapsOut == Tryz.prog.mapsAmong Tryz.f7.resultTypes.toList) = true := by kernel_rfl
theorem f17 : (Rows.slashKnownRow.loops == (Tryz.f7.params.toList ++ Rows.slashKnownSpec.plain.varTypes Tryz.prog).any (Tryz.prog.loopsFrom ·)) = true := by kernel_rfl
theorem f18 : (Rows.slashKnownRow.wideKeys == (Tryz.f7.params.toList ++ Rows.slashKnownSpec.plain.varTypes Tryz.prog ++ Tryz.f7.resultTypes.toList).any (Tryz.prog.wideKeysFrom ·)) = true := by kernel_rfl
theorem f20 : Tryz.f7.resultTypes.all (fun t => Tryz.prog.readableRec t && decide (t < Tryz.prog.types.size)) = true := by kernel_rfl
theorem f21 : (Rows.slashKnownRow.ifacesOut == Tryz.f7.resultTypes.toList.any (Tryz.prog.ifacesRec ·)) = true := by kernel_rfl
theorem f22 : (Rows.slashKnownRow.loopsOut == Tryz.f7.resultTypes.toList.any (Tryz.prog.loopsFrom ·)) = true := by kernel_rfl
theorem f27 : (Rows.slashKnownRow.lifted == Tryz.prog.liftsFinal) = true := by kernel_rfl
theorem f28 : (Tryz.prog.make == some Rows.slashKnownRow.make) = true := by kernel_rfl
theorem f29 : (Rows.slashKnownRow.kinds == (if Rows.slashKnownRow.domain.isEmpty then [] else Tryz.f7.params.toList.map fun t => match Tryz.prog.underlying t with | some (.int k) => some k | _ => none)) = true := by kernel_rfl
theorem f31 : (Rows.slashKnownRow.veiled == (Tryz.f7.params.toList ++ Rows.slashKnownSpec.plain.varTypes Tryz.prog ++ Tryz.f7.resultTypes.toList).any (Tryz.prog.veiledRec ·)) = true := by kernel_rfl
theorem f32 : Rows.slashKnownRow.veiledFits Tryz.prog Tryz.f7.params.toList (Tryz.f7.params.toList ++ Rows.slashKnownSpec.plain.varTypes Tryz.prog ++ Tryz.f7.resultTypes.toList) = true := by kernel_rfl
set_option maxRecDepth 1000000 in
theorem closed : joinedFacts Tryz.prog 7 Tryz.f7 (OpenSpec.ofChange Rows.slashKnownSpec).bare Rows.slashKnownRow = true :=
  band (band (band (band (band (band (band (band (band (band (band (band (band (band (band (band (band (band (band (band (band (band (band (band (band (band (band (band (band (band (band
    f1 laidOut) mapsRowed_ok) f4) f5) rfl) stopsNone) rfl) knobsNone) f10) f11) f12) f13) f14) f15) f16) f17) f18) rfl) f20) f21) f22) plainKeys_ok) rfl) stopsHeard_ok) mayEnter_ok) f27) f28) f29) rfl) f31) f32
end SlashKnown
end Go.Proofs.YtcjdpbcgmdhjfaaGreatDoor

