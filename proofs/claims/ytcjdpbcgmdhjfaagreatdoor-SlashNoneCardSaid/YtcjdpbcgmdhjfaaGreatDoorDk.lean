import Derived.Test.YtcjdpbcgmdhjfaaGreatDoorDj
namespace Go.Proofs.YtcjdpbcgmdhjfaaGreatDoor
namespace SlashNone
theorem f1 : Rows.slashNoneRow.wf (OpenSpec.ofChange (OpenSpec.ofChange Rows.slashNoneSpec).bare) = true := by kernel_rfl
theorem f4 : Tryz.f5.params.all (Tryz.prog.readableRec ·) = true := by kernel_rfl
theorem f5 : namedTie Tryz.prog Rows.slashNoneRow.named Rows.slashNoneSpec.vars = true := by kernel_rfl
theorem f10 : (Rows.slashNoneRow.inPlace == Tryz.prog.inPlace 5) = true := by kernel_rfl
theorem f11 : (Rows.slashNoneRow.unfollowed == Tryz.prog.unfollowed 5) = true := by kernel_rfl
theorem f12 : (Rows.slashNoneRow.recurses == Tryz.prog.recurses 5) = true := by kernel_rfl
theorem f13 : (Rows.slashNoneRow.named == Tryz.prog.varsNamed 5) = true := by kernel_rfl
theorem f14 : (Rows.slashNoneRow.maps == (Tryz.f5.params.toList ++ Rows.slashNoneSpec.plain.varTypes Tryz.prog).any (Tryz.prog.mapsRec ·)) = true := by kernel_rfl
theorem f15 : (Rows.slashNoneRow.ifaces == (Tryz.f5.params.toList ++ Rows.slashNoneSpec.plain.varTypes Tryz.prog).any (Tryz.prog.ifacesRec ·)) = true := by kernel_rfl
theorem f16 : (Rows.slashNoneRow.mapsOut == Tryz.prog.mapsAmong Tryz.f5.resultTypes.toList) = true := by kernel_rfl
theorem f17 : (Rows.slashNoneRow.loops == (Tryz.f5.params.toList ++ Rows.slashNoneSpec.plain.varTypes Tryz.prog).any (Tryz.prog.loopsFrom ·)) = true := by kernel_rfl
theorem f18 : (Rows.slashNoneRow.wideKeys == (Tryz.f5.params.toList ++ Rows.slashNoneSpec.plain.varTypes Tryz.prog ++ Tryz.f5.resultTypes.toList).any (Tryz.prog.wideKeysFrom ·)) = true := by kernel_rfl
theorem f20 : Tryz.f5.resultTypes.all (fun t => Tryz.prog.readableRec t && decide (t < Tryz.prog.types.size)) = true := by kernel_rfl
theorem f21 : (Rows.slashNoneRow.ifacesOut == Tryz.f5.resultTypes.toList.any (Tryz.prog.ifacesRec ·)) = true := by kernel_rfl
theorem f22 : (Rows.slashNoneRow.loopsOut == Tryz.f5.resultTypes.toList.any (Tryz.prog.loopsFrom ·)) = true := by kernel_rfl
theorem f27 : (Rows.slashNoneRow.lifted == Tryz.prog.liftsFinal) = true := by kernel_rfl
theorem f28 : (Tryz.prog.make == some Rows.slashNoneRow.make) = true := by kernel_rfl
theorem f29 : (Rows.slashNoneRow.kinds == (if Rows.slashNoneRow.domain.isEmpty then [] else Tryz.f5.params.toList.map fun t => match Tryz.prog.underlying t with | some (.int k) => some k | _ => none)) = true := by kernel_rfl
theorem f31 : (Rows.slashNoneRow.veiled == (Tryz.f5.params.toList ++ Rows.slashNoneSpec.plain.varTypes Tryz.prog ++ Tryz.f5.resultTypes.toList).any (Tryz.prog.veiledRec ·)) = true := by kernel_rfl
theorem f32 : Rows.slashNoneRow.veiledFits Tryz.prog Tryz.f5.params.toList (Tryz.f5.params.toList ++ Rows.slashNoneSpec.plain.varTypes Tryz.prog ++ Tryz.f5.resultTypes.toList) = true := by kernel_rfl
set_option maxRecDepth 1000000 in
theorem closed : joinedFacts Tryz.prog 5 Tryz.f5 (OpenSpec.ofChange Rows.slashNoneSpec).bare Rows.slashNoneRow = true :=
  band (band (band (band (band (band (band (band (band (band (band (band (band (band (band (band (band (band (band (band (band (band (band (band (band (band (band (band (band (band (band
    f1 laidOut) mapsRowed_ok) f4) f5) rfl) stopsNone) rfl) knobsNone) f10) f11) f12) f13) f14) f15) f16) f17) f18) rfl) f20) f21) f22) plainKeys_ok) rfl) stopsHeard_ok) mayEnter_ok) f27) f28) f29) rfl) f31) f32
end SlashNone
end Go.Proofs.YtcjdpbcgmdhjfaaGreatDoor

