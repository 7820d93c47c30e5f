/-
  NARROWER THAN 'FOR EVERY INPUT', by the rows' own cells (each row's printed sentence says how): StakeKnown: laid · StakeNone: laid · SlashNone: laid · SlashLost: laid · SlashKnown: laid.
  DERIVED. THE GIVEN ROWS OF THIS SEAT. 5 by the template 'for every input the law returns true; each argument reads behind the call as it read before'; 0 by the template 'total and deterministic' (their statements: YtcjdpbcgmdhjfaaGreatDoorTotals.lean).
  GIVEN WITH THE SEED: the statements are not yours to turn. If you find one false, say at which input.
  Laid BY PROGRAM, IN A SANDBOX (cutbox-rows.mjs): the forced cells as the released guide's own fill.sh prints them over the translation 3c4b0453004b1dd1… (all of the seat's roots in one cut). By AI agents, Wed Nov 11 2026. No macro, syntax, notation, axiom, sorry.
-/
import Derived.Test.YtcjdpbcgmdhjfaaGreatDoorChecked
import GoSem.Claim
import GoSem.ClaimJoined
import GoSem.ClaimMapViews
import Derived.JoinedTies
import Derived.KernelRfl
namespace Go.Proofs.YtcjdpbcgmdhjfaaGreatDoor
/- THE CELL 'sum', in the pinned program and in every row, IS THE sha256 OF THE DUMP (.gsa) THAT YtcjdpbcgmdhjfaaGreatDoorProg.lean LOADS. Nothing in Lean hashes anything: it is a label: what it is worth is what the hold of that sum in a sandbox is worth. -/
noncomputable def Tryz.pinned : Pinned := { name := "ytcjdpbcgmdhjfaagreatdoor", sum := "3c4b0453004b1dd197b063581517356edc86633b9564845c773a400f11e67643", checked := Tryz.checked }
namespace Rows
def none {H : Type} : Left H := { results := [], args := [] }

/- WHAT THE LISTED PACKAGE-LEVEL VARIABLES READ AS WHEN THE CALL BEGINS. Each datum BY PROGRAM (the guide's laid-datum.mjs) off the statement by which the dump's own 'gosem.cut.vars' lays the variable. In a bare row this is a premise. The card (YtcjdpbcgmdhjfaaGreatDoorCards.lean) ties it to the program's text. -/
def laid_errors_errorType {H : Type} : DataW H := .iface "internal/reflectlite.rtype" (.agg [.ptr (.lit (.string [101, 114, 114, 111, 114]))])

/-- 'distraintlaw18.StakeKnown': WHATEVER THE INPUT: true; the input reads as it did. -/
def stakeKnownSpec : ChangeSpec := { name := "stakeKnown", fn := fun _ => fun
  | [] => { results := [.lit (.bool true)], args := [] }
  | _ => none }
def stakeKnownRow : OpenClaim := { program := "ytcjdpbcgmdhjfaagreatdoor", sum := "3c4b0453004b1dd197b063581517356edc86633b9564845c773a400f11e67643", func := "distraint/distraintlaw18.StakeKnown", spec := "stakeKnown", inPlace := ["math/bits.Add64", "slices.overlaps[distraint/api.Class]", "slices.overlaps[distraint/api.Position]", "internal/reflectlite.ValueOf", "(internal/reflectlite.Value).Type", "(internal/reflectlite.Value).IsNil", "internal/reflectlite.TypeOf", "(internal/reflectlite.Value).Elem", "(internal/reflectlite.Value).Set"], unfollowed := true, recurses := true, named := ["math/bits.divideError", "math/bits.overflowError", "errors.errorType"], plainKeys := false, apart := false, laid := [("errors.errorType", laid_errors_errorType)] }
def StakeKnownSaid : Prop := stakeKnownRow.holds Tryz.pinned (OpenSpec.ofChange stakeKnownSpec)

/-- ITS FALSE NEIGHBOUR: 'it returns false'. Refute it at one input. -/
def stakeKnownWrong : ChangeSpec := { name := "stakeKnown", fn := fun _ => fun
  | [] => { results := [.lit (.bool false)], args := [] }
  | _ => none }
def StakeKnownWrongFalsely : Prop := stakeKnownRow.holds Tryz.pinned (OpenSpec.ofChange stakeKnownWrong)

/-- 'distraintlaw18.StakeNone': WHATEVER THE INPUT: true; the input reads as it did. -/
def stakeNoneSpec : ChangeSpec := { name := "stakeNone", fn := fun _ => fun
  | [d] => { results := [.lit (.bool true)], args := [d] }
  | _ => none }
def stakeNoneRow : OpenClaim := { program := "ytcjdpbcgmdhjfaagreatdoor", sum := "3c4b0453004b1dd197b063581517356edc86633b9564845c773a400f11e67643", func := "distraint/distraintlaw18.StakeNone", spec := "stakeNone", inPlace := ["math/bits.Add64", "internal/reflectlite.ValueOf", "(internal/reflectlite.Value).Type", "(internal/reflectlite.Value).IsNil", "internal/reflectlite.TypeOf", "(internal/reflectlite.Value).Elem", "(internal/reflectlite.Value).Set", "slices.overlaps[distraint/api.Class]", "slices.overlaps[distraint/api.Position]"], unfollowed := true, recurses := true, named := ["math/bits.divideError", "math/bits.overflowError", "errors.errorType"], plainKeys := false, apart := false, laid := [("errors.errorType", laid_errors_errorType)] }
def StakeNoneSaid : Prop := stakeNoneRow.holds Tryz.pinned (OpenSpec.ofChange stakeNoneSpec)

/-- ITS FALSE NEIGHBOUR: 'it returns false'. Refute it at one input. -/
def stakeNoneWrong : ChangeSpec := { name := "stakeNone", fn := fun _ => fun
  | [d] => { results := [.lit (.bool false)], args := [d] }
  | _ => none }
def StakeNoneWrongFalsely : Prop := stakeNoneRow.holds Tryz.pinned (OpenSpec.ofChange stakeNoneWrong)

/-- 'distraintlaw25.SlashNone': WHATEVER THE INPUT: true; the input reads as it did. -/
def slashNoneSpec : ChangeSpec := { name := "slashNone", fn := fun _ => fun
  | [d1, d2] => { results := [.lit (.bool true)], args := [d1, d2] }
  | _ => none }
def slashNoneRow : OpenClaim := { program := "ytcjdpbcgmdhjfaagreatdoor", sum := "3c4b0453004b1dd197b063581517356edc86633b9564845c773a400f11e67643", func := "distraint/distraintlaw25.SlashNone", spec := "slashNone", inPlace := ["math/bits.Add64", "internal/reflectlite.ValueOf", "(internal/reflectlite.Value).Type", "(internal/reflectlite.Value).IsNil", "internal/reflectlite.TypeOf", "(internal/reflectlite.Value).Elem", "(internal/reflectlite.Value).Set", "math/bits.Sub64", "slices.overlaps[distraint/api.Class]", "slices.overlaps[distraint/api.Position]"], unfollowed := true, recurses := true, named := ["errors.errorType", "math/bits.divideError", "math/bits.overflowError"], plainKeys := false, apart := false, laid := [("errors.errorType", laid_errors_errorType)] }
def SlashNoneSaid : Prop := slashNoneRow.holds Tryz.pinned (OpenSpec.ofChange slashNoneSpec)

/-- ITS FALSE NEIGHBOUR: 'it returns false'. Refute it at one input. -/
def slashNoneWrong : ChangeSpec := { name := "slashNone", fn := fun _ => fun
  | [d1, d2] => { results := [.lit (.bool false)], args := [d1, d2] }
  | _ => none }
def SlashNoneWrongFalsely : Prop := slashNoneRow.holds Tryz.pinned (OpenSpec.ofChange slashNoneWrong)

/-- 'distraintlaw25.SlashLost': WHATEVER THE INPUT: true; the input reads as it did. -/
def slashLostSpec : ChangeSpec := { name := "slashLost", fn := fun _ => fun
  | [d1, d2, d3, d4] => { results := [.lit (.bool true)], args := [d1, d2, d3, d4] }
  | _ => none }
def slashLostRow : OpenClaim := { program := "ytcjdpbcgmdhjfaagreatdoor", sum := "3c4b0453004b1dd197b063581517356edc86633b9564845c773a400f11e67643", func := "distraint/distraintlaw25.SlashLost", spec := "slashLost", inPlace := ["math/bits.Add64", "slices.overlaps[distraint/api.Class]", "slices.overlaps[distraint/api.Position]", "internal/reflectlite.ValueOf", "(internal/reflectlite.Value).Type", "(internal/reflectlite.Value).IsNil", "internal/reflectlite.TypeOf", "(internal/reflectlite.Value).Elem", "(internal/reflectlite.Value).Set", "math/bits.Sub64"], unfollowed := true, recurses := true, named := ["math/bits.divideError", "math/bits.overflowError", "errors.errorType"], plainKeys := false, apart := false, laid := [("errors.errorType", laid_errors_errorType)] }
def SlashLostSaid : Prop := slashLostRow.holds Tryz.pinned (OpenSpec.ofChange slashLostSpec)

/-- ITS FALSE NEIGHBOUR: 'it returns false'. Refute it at one input. -/
def slashLostWrong : ChangeSpec := { name := "slashLost", fn := fun _ => fun
  | [d1, d2, d3, d4] => { results := [.lit (.bool false)], args := [d1, d2, d3, d4] }
  | _ => none }
def SlashLostWrongFalsely : Prop := slashLostRow.holds Tryz.pinned (OpenSpec.ofChange slashLostWrong)

/-- 'distraintlaw25.SlashKnown': WHATEVER THE INPUT: true; the input reads as it did. -/
def slashKnownSpec : ChangeSpec := { name := "slashKnown", fn := fun _ => fun
  | [] => { results := [.lit (.bool true)], args := [] }
  | _ => none }
def slashKnownRow : OpenClaim := { program := "ytcjdpbcgmdhjfaagreatdoor", sum := "3c4b0453004b1dd197b063581517356edc86633b9564845c773a400f11e67643", func := "distraint/distraintlaw25.SlashKnown", spec := "slashKnown", inPlace := ["math/bits.Add64", "slices.overlaps[distraint/api.Class]", "slices.overlaps[distraint/api.Position]", "internal/reflectlite.ValueOf", "(internal/reflectlite.Value).Type", "(internal/reflectlite.Value).IsNil", "internal/reflectlite.TypeOf", "(internal/reflectlite.Value).Elem", "(internal/reflectlite.Value).Set", "math/bits.Sub64"], unfollowed := true, recurses := true, named := ["math/bits.divideError", "math/bits.overflowError", "errors.errorType"], plainKeys := false, apart := false, laid := [("errors.errorType", laid_errors_errorType)] }
def SlashKnownSaid : Prop := slashKnownRow.holds Tryz.pinned (OpenSpec.ofChange slashKnownSpec)

/-- ITS FALSE NEIGHBOUR: 'it returns false'. Refute it at one input. -/
def slashKnownWrong : ChangeSpec := { name := "slashKnown", fn := fun _ => fun
  | [] => { results := [.lit (.bool false)], args := [] }
  | _ => none }
def SlashKnownWrongFalsely : Prop := slashKnownRow.holds Tryz.pinned (OpenSpec.ofChange slashKnownWrong)

/- THE SECOND FORM. 'bulk': how many values and letters a reading holds, each counted each time it is reached (what is shared counts as often as it is met; a slice's spare places count too). A statement '..UptoSaid' is the law's where the arguments, and the package variables that the reading takes, are together of bulk at most 1048576: NARROWER than '..Said'. Prove '..Said' where nothing that the law and all that it calls make is longer than what came in: it says more and counts as full. Else prove '..UptoSaid'. A law counts once. -/
mutual
def uptoBulk {H : Type} : DataW H → Nat
  | .lit (.string bytes) => bytes.length + 1
  | .lit _ => 1
  | .nil => 1
  | .ptr d => uptoBulk d + 1
  | .slice elems spare => uptoBulkAll elems + uptoBulkAll spare + 1
  | .agg parts => uptoBulkAll parts + 1
  | .iface _ d => uptoBulk d + 1
  | .map entries => uptoBulkEntries entries + 1
  | .held _ => 1
def uptoBulkAll {H : Type} : List (DataW H) → Nat
  | [] => 0
  | d :: r => uptoBulk d + uptoBulkAll r
def uptoBulkEntries {H : Type} : List (Lit × DataW H) → Nat
  | [] => 0
  | x :: r => uptoBulkEntry x + uptoBulkEntries r
def uptoBulkEntry {H : Type} : Lit × DataW H → Nat
  | (.string bytes, d) => bytes.length + uptoBulk d + 1
  | (_, d) => uptoBulk d + 1
 end
def uptoSmall : (H : Type) → List (DataW H) → Bool := fun _ ds => decide (uptoBulkAll ds ≤ 1048576)
def OpenSpec.upto (s : _root_.Go.ChangeSpec) : _root_.Go.OpenSpec := { _root_.Go.OpenSpec.ofChange s with cond := some uptoSmall }

/-- 'distraintlaw18.StakeKnown', WHERE WHAT IT READS IS OF BULK AT MOST 1048576: true; the input reads as it did. -/
def stakeKnownUptoRow : OpenClaim := { program := "ytcjdpbcgmdhjfaagreatdoor", sum := "3c4b0453004b1dd197b063581517356edc86633b9564845c773a400f11e67643", func := "distraint/distraintlaw18.StakeKnown", spec := "stakeKnown", inPlace := ["math/bits.Add64", "slices.overlaps[distraint/api.Class]", "slices.overlaps[distraint/api.Position]", "internal/reflectlite.ValueOf", "(internal/reflectlite.Value).Type", "(internal/reflectlite.Value).IsNil", "internal/reflectlite.TypeOf", "(internal/reflectlite.Value).Elem", "(internal/reflectlite.Value).Set"], unfollowed := true, recurses := true, named := ["math/bits.divideError", "math/bits.overflowError", "errors.errorType"], plainKeys := false, apart := false, laid := [("errors.errorType", laid_errors_errorType)], narrowed := true }
def StakeKnownUptoSaid : Prop := stakeKnownUptoRow.holds Tryz.pinned (OpenSpec.upto stakeKnownSpec)

/-- 'distraintlaw18.StakeNone', WHERE WHAT IT READS IS OF BULK AT MOST 1048576: true; the input reads as it did. -/
def stakeNoneUptoRow : OpenClaim := { program := "ytcjdpbcgmdhjfaagreatdoor", sum := "3c4b0453004b1dd197b063581517356edc86633b9564845c773a400f11e67643", func := "distraint/distraintlaw18.StakeNone", spec := "stakeNone", inPlace := ["math/bits.Add64", "internal/reflectlite.ValueOf", "(internal/reflectlite.Value).Type", "(internal/reflectlite.Value).IsNil", "internal/reflectlite.TypeOf", "(internal/reflectlite.Value).Elem", "(internal/reflectlite.Value).Set", "slices.overlaps[distraint/api.Class]", "slices.overlaps[distraint/api.Position]"], unfollowed := true, recurses := true, named := ["math/bits.divideError", "math/bits.overflowError", "errors.errorType"], plainKeys := false, apart := false, laid := [("errors.errorType", laid_errors_errorType)], narrowed := true }
def StakeNoneUptoSaid : Prop := stakeNoneUptoRow.holds Tryz.pinned (OpenSpec.upto stakeNoneSpec)

/-- 'distraintlaw25.SlashNone', WHERE WHAT IT READS IS OF BULK AT MOST 1048576: true; the input reads as it did. -/
def slashNoneUptoRow : OpenClaim := { program := "ytcjdpbcgmdhjfaagreatdoor", sum := "3c4b0453004b1dd197b063581517356edc86633b9564845c773a400f11e67643", func := "distraint/distraintlaw25.SlashNone", spec := "slashNone", inPlace := ["math/bits.Add64", "internal/reflectlite.ValueOf", "(internal/reflectlite.Value).Type", "(internal/reflectlite.Value).IsNil", "internal/reflectlite.TypeOf", "(internal/reflectlite.Value).Elem", "(internal/reflectlite.Value).Set", "math/bits.Sub64", "slices.overlaps[distraint/api.Class]", "slices.overlaps[distraint/api.Position]"], unfollowed := true, recurses := true, named := ["errors.errorType", "math/bits.divideError", "math/bits.overflowError"], plainKeys := false, apart := false, laid := [("errors.errorType", laid_errors_errorType)], narrowed := true }
def SlashNoneUptoSaid : Prop := slashNoneUptoRow.holds Tryz.pinned (OpenSpec.upto slashNoneSpec)

/-- 'distraintlaw25.SlashLost', WHERE WHAT IT READS IS OF BULK AT MOST 1048576: true; the input reads as it did. -/
def slashLostUptoRow : OpenClaim := { program := "ytcjdpbcgmdhjfaagreatdoor", sum := "3c4b0453004b1dd197b063581517356edc86633b9564845c773a400f11e67643", func := "distraint/distraintlaw25.SlashLost", spec := "slashLost", inPlace := ["math/bits.Add64", "slices.overlaps[distraint/api.Class]", "slices.overlaps[distraint/api.Position]", "internal/reflectlite.ValueOf", "(internal/reflectlite.Value).Type", "(internal/reflectlite.Value).IsNil", "internal/reflectlite.TypeOf", "(internal/reflectlite.Value).Elem", "(internal/reflectlite.Value).Set", "math/bits.Sub64"], unfollowed := true, recurses := true, named := ["math/bits.divideError", "math/bits.overflowError", "errors.errorType"], plainKeys := false, apart := false, laid := [("errors.errorType", laid_errors_errorType)], narrowed := true }
def SlashLostUptoSaid : Prop := slashLostUptoRow.holds Tryz.pinned (OpenSpec.upto slashLostSpec)

/-- 'distraintlaw25.SlashKnown', WHERE WHAT IT READS IS OF BULK AT MOST 1048576: true; the input reads as it did. -/
def slashKnownUptoRow : OpenClaim := { program := "ytcjdpbcgmdhjfaagreatdoor", sum := "3c4b0453004b1dd197b063581517356edc86633b9564845c773a400f11e67643", func := "distraint/distraintlaw25.SlashKnown", spec := "slashKnown", inPlace := ["math/bits.Add64", "slices.overlaps[distraint/api.Class]", "slices.overlaps[distraint/api.Position]", "internal/reflectlite.ValueOf", "(internal/reflectlite.Value).Type", "(internal/reflectlite.Value).IsNil", "internal/reflectlite.TypeOf", "(internal/reflectlite.Value).Elem", "(internal/reflectlite.Value).Set", "math/bits.Sub64"], unfollowed := true, recurses := true, named := ["math/bits.divideError", "math/bits.overflowError", "errors.errorType"], plainKeys := false, apart := false, laid := [("errors.errorType", laid_errors_errorType)], narrowed := true }
def SlashKnownUptoSaid : Prop := slashKnownUptoRow.holds Tryz.pinned (OpenSpec.upto slashKnownSpec)

end Rows
end Go.Proofs.YtcjdpbcgmdhjfaaGreatDoor
