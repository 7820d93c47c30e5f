import Derived.Test.YtifhpiilobkjiaaGreatDoorDe
import Derived.Test.YtifhpiilobkjiaaGreatDoorDi
import Derived.Test.YtifhpiilobkjiaaGreatDoorDm
import Derived.Test.YtifhpiilobkjiaaGreatDoorDf
import Derived.Test.YtifhpiilobkjiaaGreatDoorDn
set_option maxRecDepth 1000000
namespace Go.Ax
open Go Go.Proofs

noncomputable def extT : List (Nat × Ext) := [(249, .rlValueOf [(293, 150), (37, 130)]), (250, .rlVType [(293, 150)]), (251, .rlIsNil [(293, 150)]), (314, .rlTypeOf [(389, ()), (37, ())]), (315, .rlVElem [(293, 150, 37, 386)]), (316, .rlSet [(37, 386, 130)]), (671, .rlTKind [(37, 2), (293, 22)]), (706, .rlAssignable [(389, 37, false), (37, 37, true)]), (708, .rlElem [(293, 37)]), (709, .rlImplements [(37, 65, true)]), (101, .noEscape), (370, .add64), (651, .sub64), (289, .cmp), (284, .indexByte)]
noncomputable def insT : List (Nat × Con) := [(444, .pure atG), (445, .pure rotG), (365, .fn (conOne (inG thetaF))), (366, .fn (conOne (inG rhoF))), (367, .fn (conOne (inG chiF))), (368, .pure rcG), (189, .pure eightG), (317, .fn (conOne wordG)), (99, .pure idxG), (163, .insert 83), (605, .insert 320), (607, .insert 154)]
noncomputable def CC : Cfg := { CB with ext := lookN extT, insert := lookN insT }
theorem all1 {α : Type} {a : α} {p : α → Prop} (h : p a) : ∀ q ∈ [a], p q := fun q hq => by
  rcases List.mem_cons.1 hq with e | e
  · exact e ▸ h
  · exact absurd e List.not_mem_nil
theorem all2 {α : Type} {a b : α} {p : α → Prop} (h : p a) (k : p b) : ∀ q ∈ [a, b], p q := fun q hq => by
  rcases List.mem_cons.1 hq with e | e
  · exact e ▸ h
  · exact all1 k q e
section
open Go.Extern
theorem x249 : ExtSound CC Tryz.prog 249 (.rlValueOf [(293, 150), (37, 130)]) :=
  rlValueOf_sound rfl globals_lt (by kernel_rfl) (by kernel_rfl) (all2 (fun a w => by kernel_rfl) (fun a w => by kernel_rfl))
theorem x250 : ExtSound CC Tryz.prog 250 (.rlVType [(293, 150)]) :=
  rlVType_sound (e := ReflectliteValue.methodAny (ReflectliteValue.valueError "reflectlite.Value.Type" 0) fun t _ _ _ => ReflectliteType.toType t) rfl globals_lt (by kernel_rfl) (by kernel_rfl) (all1 fun a w => by kernel_rfl)
theorem x251 : ExtSound CC Tryz.prog 251 (.rlIsNil [(293, 150)]) :=
  rlIsNil_sound rfl globals_lt (by kernel_rfl) (by kernel_rfl) (all1 fun a w => by kernel_rfl) (all1 (by decide))
theorem x314 : ExtSound CC Tryz.prog 314 (.rlTypeOf [(389, ()), (37, ())]) :=
  rlTypeOf_sound rfl globals_lt (by kernel_rfl) (by kernel_rfl) (all2 (fun w => by kernel_rfl) (fun w => by kernel_rfl))
theorem x315 : ExtSound CC Tryz.prog 315 (.rlVElem [(293, 150, 37, 386)]) :=
  rlVElem_sound rfl globals_lt (by kernel_rfl) (by kernel_rfl) (all1 fun a w => by kernel_rfl) (all1 (by decide)) (all1 fun w => by kernel_rfl) (all1 fun a w => by kernel_rfl)
theorem x316 : ExtSound CC Tryz.prog 316 (.rlSet [(37, 386, 130)]) :=
  rlSet_sound rfl globals_lt (by kernel_rfl) (by kernel_rfl) (all1 fun a w => ⟨by kernel_rfl, by kernel_rfl⟩) (all1 (by decide)) (all1 fun w => by kernel_rfl)
theorem x671 : ExtSound CC Tryz.prog 671 (.rlTKind [(37, 2), (293, 22)]) :=
  rlTKind_sound (e := ReflectliteType.abiMethod fun t => do pure (.int .u8 (← Rtype.kind t))) rfl globals_lt (by kernel_rfl) (by kernel_rfl) (all2 (fun w => by kernel_rfl) (fun w => by kernel_rfl))
theorem x706 : ExtSound CC Tryz.prog 706 (.rlAssignable [(389, 37, false), (37, 37, true)]) :=
  rlAssignable_sound (e := ReflectliteType.relation "AssignableTo" ReflectliteType.assignableTo) rfl globals_lt (by kernel_rfl) (by kernel_rfl) (all2 (fun w => by kernel_rfl) (fun w => by kernel_rfl))
theorem x708 : ExtSound CC Tryz.prog 708 (.rlElem [(293, 37)]) :=
  rlElem_sound rfl globals_lt (by kernel_rfl) (by kernel_rfl) (all1 fun w => by kernel_rfl)
theorem x709 : ExtSound CC Tryz.prog 709 (.rlImplements [(37, 65, true)]) :=
  rlImplements_sound (e := ReflectliteType.relation "Implements" ReflectliteType.implements_) rfl globals_lt (by kernel_rfl) (by kernel_rfl) (all1 fun w => by kernel_rfl)
end

theorem w163 : InsWalks Tryz.prog 163 231 27 3 34 := ⟨ins163_place, ins163_end, ins163_grow⟩
theorem w605 : InsWalks Tryz.prog 605 624 132 3 6 := ⟨ins605_place, ins605_end, ins605_grow⟩
theorem w607 : InsWalks Tryz.prog 607 626 133 3 6 := ⟨ins607_place, ins607_end, ins607_grow⟩

theorem cc_insert : ∀ f t, lookN insT f = some t → ∀ args s v s', runCon CC t s args = some (v, s') → ∀ base ρ w cargs, HR Tryz.prog base ρ s w → VRs ρ args cargs →
    Calls Tryz.prog f ⟨cargs⟩ w fun e w' => ∃ c ρ', e = .returned c ∧ Goes Tryz.prog base ρ s w ρ' s' w' ∧ VR ρ' v c := by
  intro f t h args s v s' hv base ρ w cargs hr ha
  have h := lookN_mem h
  unfold insT at h
  rcases List.mem_cons.1 h with h | h
  · cases h
    exact conPure_sound cb_ok at_hrun hv hr ha
  rcases List.mem_cons.1 h with h | h
  · cases h
    exact conPure_sound cb_ok rot_hrun hv hr ha
  rcases List.mem_cons.1 h with h | h
  · cases h
    exact conOne_sound cp_ok theta_hrun hv hr ha
  rcases List.mem_cons.1 h with h | h
  · cases h
    exact conOne_sound cp_ok rho_hrun hv hr ha
  rcases List.mem_cons.1 h with h | h
  · cases h
    exact conOne_sound cp_ok chi_hrun hv hr ha
  rcases List.mem_cons.1 h with h | h
  · cases h
    exact conPure_sound cp_ok rc_hrun hv hr ha
  rcases List.mem_cons.1 h with h | h
  · cases h
    exact conPure_sound cb_ok eight_hrun hv hr ha
  rcases List.mem_cons.1 h with h | h
  · cases h
    exact conOne_sound cb_ok word_hrun hv hr ha
  rcases List.mem_cons.1 h with h | h
  · cases h
    exact conPure_sound ci_ok idx_hrun hv hr ha
  rcases List.mem_cons.1 h with h | h
  · cases h
    exact insert_sound (C := CC) (sz := 34) (ps := #[27, 27]) (rs := #[4]) w163 rfl (by kernel_rfl) (by kernel_rfl) (by kernel_rfl) (by kernel_rfl) (by kernel_rfl) rfl (by kernel_rfl) hv hr ha
  rcases List.mem_cons.1 h with h | h
  · cases h
    exact insert_sound (C := CC) (sz := 6) (ps := #[132, 132]) (rs := #[4]) w605 rfl (by kernel_rfl) (by kernel_rfl) (by kernel_rfl) (by kernel_rfl) (by kernel_rfl) rfl (by kernel_rfl) hv hr ha
  rcases List.mem_cons.1 h with h | h
  · cases h
    exact insert_sound (C := CC) (sz := 6) (ps := #[133, 133]) (rs := #[4]) w607 rfl (by kernel_rfl) (by kernel_rfl) (by kernel_rfl) (by kernel_rfl) (by kernel_rfl) rfl (by kernel_rfl) hv hr ha
  exact absurd h List.not_mem_nil

/-- each of the list's entries is sound -/
def AllExt (P : Program) (C : Cfg) : List (Nat × Ext) → Prop
  | [] => True
  | q :: l => ExtSound C P q.1 q.2 ∧ AllExt P C l
theorem ext_all {P : Program} {C : Cfg} : ∀ {l : List (Nat × Ext)}, AllExt P C l → ∀ f e, lookN l f = some e → ExtSound C P f e := by
  intro l hl f e h
  replace h := lookN_mem h
  induction l with
  | nil => cases h
  | cons q l ih =>
    rcases List.mem_cons.1 h with h | h
    · subst h; exact hl.1
    · exact ih hl.2 h

theorem cc_ok : CfgOk CC Tryz.prog := cfg_ok (ext := lookN extT) (ins := lookN insT) rfl cc_insert (ext_all (l := extT) ⟨x249, x250, x251, x314, x315, x316, x671, x706, x708, x709, noEscape_sound (by kernel_rfl) (by kernel_rfl), add64_sound (by kernel_rfl) (by kernel_rfl), sub64_sound (by kernel_rfl) (by kernel_rfl), cmp_sound (by kernel_rfl) (by kernel_rfl), indexByte_sound (by kernel_rfl) (by kernel_rfl), trivial⟩)
end Go.Ax

