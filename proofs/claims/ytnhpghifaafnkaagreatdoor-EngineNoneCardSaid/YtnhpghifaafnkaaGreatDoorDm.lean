import Derived.Test.YtnhpghifaafnkaaGreatDoorDe
import Derived.Test.YtnhpghifaafnkaaGreatDoorDh
import Derived.Test.YtnhpghifaafnkaaGreatDoorDl
import Derived.Test.YtnhpghifaafnkaaGreatDoorDf
set_option maxRecDepth 1000000
namespace Go.Ax
open Go Go.Proofs

noncomputable def extT : List (Nat × Ext) := [(68, .rlValueOf [(106, 150), (44, 130)]), (69, .rlVType [(106, 150)]), (70, .rlIsNil [(106, 150)]), (129, .rlTypeOf [(165, ()), (44, ())]), (130, .rlVElem [(106, 150, 44, 386)]), (131, .rlSet [(44, 386, 130)]), (552, .rlTKind [(44, 2), (106, 22)]), (582, .rlAssignable [(165, 44, false), (44, 44, true)]), (584, .rlElem [(106, 44)]), (585, .rlImplements [(44, 102, true)]), (309, .add64), (531, .sub64), (400, .cmp)]
noncomputable def insT : List (Nat × Con) := [(391, .pure atG), (392, .pure rotG), (304, .fn (conOne (inG thetaF))), (305, .fn (conOne (inG rhoF))), (306, .fn (conOne (inG chiF))), (307, .pure rcG), (80, .pure eightG), (204, .fn (conOne wordG)), (484, .insert 227), (486, .insert 231)]
noncomputable def CC : Cfg := { CB with ext := lookN extT, insert := lookN insT }
theorem all1 {α : Type} {a : α} {p : α → Prop} (h : p a) : ∀ q ∈ [a], p q := fun q hq => by
  rcases List.mem_cons.1 hq with e | e
  · exact e ▸ h
  · exact absurd e List.not_mem_nil
theorem all2 {α : Type} {a b : α} {p : α → Prop} (h : p a) (k : p b) : ∀ q ∈ [a, b], p q := fun q hq => by
  rcases List.mem_cons.1 hq with e | e
  · exact e ▸ h
  · exact all1 k q e
section
open Go.Extern
theorem x68 : ExtSound CC Tryz.prog 68 (.rlValueOf [(106, 150), (44, 130)]) :=
  rlValueOf_sound rfl globals_lt (by kernel_rfl) (by kernel_rfl) (all2 (fun a w => by kernel_rfl) (fun a w => by kernel_rfl))
theorem x69 : ExtSound CC Tryz.prog 69 (.rlVType [(106, 150)]) :=
  rlVType_sound (e := ReflectliteValue.methodAny (ReflectliteValue.valueError "reflectlite.Value.Type" 0) fun t _ _ _ => ReflectliteType.toType t) rfl globals_lt (by kernel_rfl) (by kernel_rfl) (all1 fun a w => by kernel_rfl)
theorem x70 : ExtSound CC Tryz.prog 70 (.rlIsNil [(106, 150)]) :=
  rlIsNil_sound rfl globals_lt (by kernel_rfl) (by kernel_rfl) (all1 fun a w => by kernel_rfl) (all1 (by decide))
theorem x129 : ExtSound CC Tryz.prog 129 (.rlTypeOf [(165, ()), (44, ())]) :=
  rlTypeOf_sound rfl globals_lt (by kernel_rfl) (by kernel_rfl) (all2 (fun w => by kernel_rfl) (fun w => by kernel_rfl))
theorem x130 : ExtSound CC Tryz.prog 130 (.rlVElem [(106, 150, 44, 386)]) :=
  rlVElem_sound rfl globals_lt (by kernel_rfl) (by kernel_rfl) (all1 fun a w => by kernel_rfl) (all1 (by decide)) (all1 fun w => by kernel_rfl) (all1 fun a w => by kernel_rfl)
theorem x131 : ExtSound CC Tryz.prog 131 (.rlSet [(44, 386, 130)]) :=
  rlSet_sound rfl globals_lt (by kernel_rfl) (by kernel_rfl) (all1 fun a w => ⟨by kernel_rfl, by kernel_rfl⟩) (all1 (by decide)) (all1 fun w => by kernel_rfl)
theorem x552 : ExtSound CC Tryz.prog 552 (.rlTKind [(44, 2), (106, 22)]) :=
  rlTKind_sound (e := ReflectliteType.abiMethod fun t => do pure (.int .u8 (← Rtype.kind t))) rfl globals_lt (by kernel_rfl) (by kernel_rfl) (all2 (fun w => by kernel_rfl) (fun w => by kernel_rfl))
theorem x582 : ExtSound CC Tryz.prog 582 (.rlAssignable [(165, 44, false), (44, 44, true)]) :=
  rlAssignable_sound (e := ReflectliteType.relation "AssignableTo" ReflectliteType.assignableTo) rfl globals_lt (by kernel_rfl) (by kernel_rfl) (all2 (fun w => by kernel_rfl) (fun w => by kernel_rfl))
theorem x584 : ExtSound CC Tryz.prog 584 (.rlElem [(106, 44)]) :=
  rlElem_sound rfl globals_lt (by kernel_rfl) (by kernel_rfl) (all1 fun w => by kernel_rfl)
theorem x585 : ExtSound CC Tryz.prog 585 (.rlImplements [(44, 102, true)]) :=
  rlImplements_sound (e := ReflectliteType.relation "Implements" ReflectliteType.implements_) rfl globals_lt (by kernel_rfl) (by kernel_rfl) (all1 fun w => by kernel_rfl)
end

theorem w484 : InsWalks Tryz.prog 484 504 73 3 6 := ⟨ins484_place, ins484_end, ins484_grow⟩
theorem w486 : InsWalks Tryz.prog 486 506 74 3 6 := ⟨ins486_place, ins486_end, ins486_grow⟩

theorem cc_insert : ∀ f t, lookN insT f = some t → ∀ args s v s', runCon CC t s args = some (v, s') → ∀ base ρ w cargs, HR Tryz.prog base ρ s w → VRs ρ args cargs →
    Calls Tryz.prog f ⟨cargs⟩ w fun e w' => ∃ c ρ', e = .returned c ∧ Goes Tryz.prog base ρ s w ρ' s' w' ∧ VR ρ' v c := by
  intro f t h args s v s' hv base ρ w cargs hr ha
  have h := lookN_mem h
  unfold insT at h
  rcases List.mem_cons.1 h with h | h
  · cases h
    exact conPure_sound cb_ok at_hrun hv hr ha
  rcases List.mem_cons.1 h with h | h
  · cases h
    exact conPure_sound cb_ok rot_hrun hv hr ha
  rcases List.mem_cons.1 h with h | h
  · cases h
    exact conOne_sound cp_ok theta_hrun hv hr ha
  rcases List.mem_cons.1 h with h | h
  · cases h
    exact conOne_sound cp_ok rho_hrun hv hr ha
  rcases List.mem_cons.1 h with h | h
  · cases h
    exact conOne_sound cp_ok chi_hrun hv hr ha
  rcases List.mem_cons.1 h with h | h
  · cases h
    exact conPure_sound cp_ok rc_hrun hv hr ha
  rcases List.mem_cons.1 h with h | h
  · cases h
    exact conPure_sound cb_ok eight_hrun hv hr ha
  rcases List.mem_cons.1 h with h | h
  · cases h
    exact conOne_sound cb_ok word_hrun hv hr ha
  rcases List.mem_cons.1 h with h | h
  · cases h
    exact insert_sound (C := CC) (sz := 6) (ps := #[73, 73]) (rs := #[4]) w484 rfl (by kernel_rfl) (by kernel_rfl) (by kernel_rfl) (by kernel_rfl) (by kernel_rfl) rfl (by kernel_rfl) hv hr ha
  rcases List.mem_cons.1 h with h | h
  · cases h
    exact insert_sound (C := CC) (sz := 6) (ps := #[74, 74]) (rs := #[4]) w486 rfl (by kernel_rfl) (by kernel_rfl) (by kernel_rfl) (by kernel_rfl) (by kernel_rfl) rfl (by kernel_rfl) hv hr ha
  exact absurd h List.not_mem_nil

/-- each of the list's entries is sound -/
def AllExt (P : Program) (C : Cfg) : List (Nat × Ext) → Prop
  | [] => True
  | q :: l => ExtSound C P q.1 q.2 ∧ AllExt P C l
theorem ext_all {P : Program} {C : Cfg} : ∀ {l : List (Nat × Ext)}, AllExt P C l → ∀ f e, lookN l f = some e → ExtSound C P f e := by
  intro l hl f e h
  replace h := lookN_mem h
  induction l with
  | nil => cases h
  | cons q l ih =>
    rcases List.mem_cons.1 h with h | h
    · subst h; exact hl.1
    · exact ih hl.2 h

theorem cc_ok : CfgOk CC Tryz.prog := cfg_ok (ext := lookN extT) (ins := lookN insT) rfl cc_insert (ext_all (l := extT) ⟨x68, x69, x70, x129, x130, x131, x552, x582, x584, x585, add64_sound (by kernel_rfl) (by kernel_rfl), sub64_sound (by kernel_rfl) (by kernel_rfl), cmp_sound (by kernel_rfl) (by kernel_rfl), trivial⟩)
end Go.Ax

