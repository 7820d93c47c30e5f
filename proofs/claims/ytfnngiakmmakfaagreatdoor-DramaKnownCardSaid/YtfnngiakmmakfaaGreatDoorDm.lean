import Derived.Test.YtfnngiakmmakfaaGreatDoorDe
import Derived.Test.YtfnngiakmmakfaaGreatDoorDh
import Derived.Test.YtfnngiakmmakfaaGreatDoorDl
import Derived.Test.YtfnngiakmmakfaaGreatDoorDf
set_option maxRecDepth 1000000
namespace Go.Ax
open Go Go.Proofs

noncomputable def extT : List (Nat × Ext) := [(282, .rlValueOf [(376, 150), (47, 130)]), (283, .rlVType [(376, 150)]), (284, .rlIsNil [(376, 150)]), (379, .rlTypeOf [(514, ()), (47, ())]), (380, .rlVElem [(376, 150, 47, 386)]), (381, .rlSet [(47, 386, 130)]), (671, .rlTKind [(47, 2), (376, 22)]), (713, .rlAssignable [(514, 47, false), (47, 47, true)]), (715, .rlElem [(376, 47)]), (716, .rlImplements [(47, 124, true)]), (128, .noEscape), (406, .add64), (651, .sub64), (330, .cmp)]
noncomputable def insT : List (Nat × Con) := [(490, .pure atG), (491, .pure rotG), (425, .fn (conOne (inG thetaF))), (426, .fn (conOne (inG rhoF))), (427, .fn (conOne (inG chiF))), (428, .pure rcG), (198, .pure eightG), (384, .fn (conOne wordG)), (219, .insert 160), (605, .insert 327), (607, .insert 330)]
noncomputable def CC : Cfg := { CB with ext := lookN extT, insert := lookN insT }
theorem all1 {α : Type} {a : α} {p : α → Prop} (h : p a) : ∀ q ∈ [a], p q := fun q hq => by
  rcases List.mem_cons.1 hq with e | e
  · exact e ▸ h
  · exact absurd e List.not_mem_nil
theorem all2 {α : Type} {a b : α} {p : α → Prop} (h : p a) (k : p b) : ∀ q ∈ [a, b], p q := fun q hq => by
  rcases List.mem_cons.1 hq with e | e
  · exact e ▸ h
  · exact all1 k q e
section
open Go.Extern
theorem x282 : ExtSound CC Tryz.prog 282 (.rlValueOf [(376, 150), (47, 130)]) :=
  rlValueOf_sound rfl globals_lt (by kernel_rfl) (by kernel_rfl) (all2 (fun a w => by kernel_rfl) (fun a w => by kernel_rfl))
theorem x283 : ExtSound CC Tryz.prog 283 (.rlVType [(376, 150)]) :=
  rlVType_sound (e := ReflectliteValue.methodAny (ReflectliteValue.valueError "reflectlite.Value.Type" 0) fun t _ _ _ => ReflectliteType.toType t) rfl globals_lt (by kernel_rfl) (by kernel_rfl) (all1 fun a w => by kernel_rfl)
theorem x284 : ExtSound CC Tryz.prog 284 (.rlIsNil [(376, 150)]) :=
  rlIsNil_sound rfl globals_lt (by kernel_rfl) (by kernel_rfl) (all1 fun a w => by kernel_rfl) (all1 (by decide))
theorem x379 : ExtSound CC Tryz.prog 379 (.rlTypeOf [(514, ()), (47, ())]) :=
  rlTypeOf_sound rfl globals_lt (by kernel_rfl) (by kernel_rfl) (all2 (fun w => by kernel_rfl) (fun w => by kernel_rfl))
theorem x380 : ExtSound CC Tryz.prog 380 (.rlVElem [(376, 150, 47, 386)]) :=
  rlVElem_sound rfl globals_lt (by kernel_rfl) (by kernel_rfl) (all1 fun a w => by kernel_rfl) (all1 (by decide)) (all1 fun w => by kernel_rfl) (all1 fun a w => by kernel_rfl)
theorem x381 : ExtSound CC Tryz.prog 381 (.rlSet [(47, 386, 130)]) :=
  rlSet_sound rfl globals_lt (by kernel_rfl) (by kernel_rfl) (all1 fun a w => ⟨by kernel_rfl, by kernel_rfl⟩) (all1 (by decide)) (all1 fun w => by kernel_rfl)
theorem x671 : ExtSound CC Tryz.prog 671 (.rlTKind [(47, 2), (376, 22)]) :=
  rlTKind_sound (e := ReflectliteType.abiMethod fun t => do pure (.int .u8 (← Rtype.kind t))) rfl globals_lt (by kernel_rfl) (by kernel_rfl) (all2 (fun w => by kernel_rfl) (fun w => by kernel_rfl))
theorem x713 : ExtSound CC Tryz.prog 713 (.rlAssignable [(514, 47, false), (47, 47, true)]) :=
  rlAssignable_sound (e := ReflectliteType.relation "AssignableTo" ReflectliteType.assignableTo) rfl globals_lt (by kernel_rfl) (by kernel_rfl) (all2 (fun w => by kernel_rfl) (fun w => by kernel_rfl))
theorem x715 : ExtSound CC Tryz.prog 715 (.rlElem [(376, 47)]) :=
  rlElem_sound rfl globals_lt (by kernel_rfl) (by kernel_rfl) (all1 fun w => by kernel_rfl)
theorem x716 : ExtSound CC Tryz.prog 716 (.rlImplements [(47, 124, true)]) :=
  rlImplements_sound (e := ReflectliteType.relation "Implements" ReflectliteType.implements_) rfl globals_lt (by kernel_rfl) (by kernel_rfl) (all1 fun w => by kernel_rfl)
end

theorem w219 : InsWalks Tryz.prog 219 308 39 3 34 := ⟨ins219_place, ins219_end, ins219_grow⟩
theorem w605 : InsWalks Tryz.prog 605 624 29 3 6 := ⟨ins605_place, ins605_end, ins605_grow⟩
theorem w607 : InsWalks Tryz.prog 607 626 30 3 6 := ⟨ins607_place, ins607_end, ins607_grow⟩

theorem cc_insert : ∀ f t, lookN insT f = some t → ∀ args s v s', runCon CC t s args = some (v, s') → ∀ base ρ w cargs, HR Tryz.prog base ρ s w → VRs ρ args cargs →
    Calls Tryz.prog f ⟨cargs⟩ w fun e w' => ∃ c ρ', e = .returned c ∧ Goes Tryz.prog base ρ s w ρ' s' w' ∧ VR ρ' v c := by
  intro f t h args s v s' hv base ρ w cargs hr ha
  have h := lookN_mem h
  unfold insT at h
  rcases List.mem_cons.1 h with h | h
  · cases h
    exact conPure_sound cb_ok at_hrun hv hr ha
  rcases List.mem_cons.1 h with h | h
  · cases h
    exact conPure_sound cb_ok rot_hrun hv hr ha
  rcases List.mem_cons.1 h with h | h
  · cases h
    exact conOne_sound cp_ok theta_hrun hv hr ha
  rcases List.mem_cons.1 h with h | h
  · cases h
    exact conOne_sound cp_ok rho_hrun hv hr ha
  rcases List.mem_cons.1 h with h | h
  · cases h
    exact conOne_sound cp_ok chi_hrun hv hr ha
  rcases List.mem_cons.1 h with h | h
  · cases h
    exact conPure_sound cp_ok rc_hrun hv hr ha
  rcases List.mem_cons.1 h with h | h
  · cases h
    exact conPure_sound cb_ok eight_hrun hv hr ha
  rcases List.mem_cons.1 h with h | h
  · cases h
    exact conOne_sound cb_ok word_hrun hv hr ha
  rcases List.mem_cons.1 h with h | h
  · cases h
    exact insert_sound (C := CC) (sz := 34) (ps := #[39, 39]) (rs := #[4]) w219 rfl (by kernel_rfl) (by kernel_rfl) (by kernel_rfl) (by kernel_rfl) (by kernel_rfl) rfl (by kernel_rfl) hv hr ha
  rcases List.mem_cons.1 h with h | h
  · cases h
    exact insert_sound (C := CC) (sz := 6) (ps := #[29, 29]) (rs := #[4]) w605 rfl (by kernel_rfl) (by kernel_rfl) (by kernel_rfl) (by kernel_rfl) (by kernel_rfl) rfl (by kernel_rfl) hv hr ha
  rcases List.mem_cons.1 h with h | h
  · cases h
    exact insert_sound (C := CC) (sz := 6) (ps := #[30, 30]) (rs := #[4]) w607 rfl (by kernel_rfl) (by kernel_rfl) (by kernel_rfl) (by kernel_rfl) (by kernel_rfl) rfl (by kernel_rfl) hv hr ha
  exact absurd h List.not_mem_nil

/-- each of the list's entries is sound -/
def AllExt (P : Program) (C : Cfg) : List (Nat × Ext) → Prop
  | [] => True
  | q :: l => ExtSound C P q.1 q.2 ∧ AllExt P C l
theorem ext_all {P : Program} {C : Cfg} : ∀ {l : List (Nat × Ext)}, AllExt P C l → ∀ f e, lookN l f = some e → ExtSound C P f e := by
  intro l hl f e h
  replace h := lookN_mem h
  induction l with
  | nil => cases h
  | cons q l ih =>
    rcases List.mem_cons.1 h with h | h
    · subst h; exact hl.1
    · exact ih hl.2 h

theorem cc_ok : CfgOk CC Tryz.prog := cfg_ok (ext := lookN extT) (ins := lookN insT) rfl cc_insert (ext_all (l := extT) ⟨x282, x283, x284, x379, x380, x381, x671, x713, x715, x716, noEscape_sound (by kernel_rfl) (by kernel_rfl), add64_sound (by kernel_rfl) (by kernel_rfl), sub64_sound (by kernel_rfl) (by kernel_rfl), cmp_sound (by kernel_rfl) (by kernel_rfl), trivial⟩)
end Go.Ax

