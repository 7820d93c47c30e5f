import Derived.Test.YtppfgklggjffiaaGreatDoorDe
import Derived.Test.YtppfgklggjffiaaGreatDoorDi
import Derived.Test.YtppfgklggjffiaaGreatDoorDm
import Derived.Test.YtppfgklggjffiaaGreatDoorDf
set_option maxRecDepth 1000000
namespace Go.Ax
open Go Go.Proofs

noncomputable def extT : List (Nat × Ext) := [(81, .rlValueOf [(146, 150), (33, 130)]), (82, .rlVType [(146, 150)]), (83, .rlIsNil [(146, 150)]), (149, .rlTypeOf [(188, ()), (33, ())]), (150, .rlVElem [(146, 150, 33, 386)]), (151, .rlSet [(33, 386, 130)]), (610, .rlTKind [(33, 2), (146, 22)]), (641, .rlAssignable [(188, 33, false), (33, 33, true)]), (643, .rlElem [(146, 33)]), (644, .rlImplements [(33, 142, true)]), (319, .add64), (520, .sub64), (460, .cmp)]
noncomputable def insT : List (Nat × Con) := [(551, .pure atG), (552, .pure rotG), (509, .fn (conOne (inG thetaF))), (510, .fn (conOne (inG rhoF))), (511, .fn (conOne (inG chiF))), (512, .pure rcG), (379, .pure eightG), (452, .fn (conOne wordG)), (545, .insert 384), (547, .insert 387)]
noncomputable def CC : Cfg := { CB with ext := lookN extT, insert := lookN insT }
theorem all1 {α : Type} {a : α} {p : α → Prop} (h : p a) : ∀ q ∈ [a], p q := fun q hq => by
  rcases List.mem_cons.1 hq with e | e
  · exact e ▸ h
  · exact absurd e List.not_mem_nil
theorem all2 {α : Type} {a b : α} {p : α → Prop} (h : p a) (k : p b) : ∀ q ∈ [a, b], p q := fun q hq => by
  rcases List.mem_cons.1 hq with e | e
  · exact e ▸ h
  · exact all1 k q e
section
open Go.Extern
theorem x81 : ExtSound CC Tryz.prog 81 (.rlValueOf [(146, 150), (33, 130)]) :=
  rlValueOf_sound rfl globals_lt (by kernel_rfl) (by kernel_rfl) (all2 (fun a w => by kernel_rfl) (fun a w => by kernel_rfl))
theorem x82 : ExtSound CC Tryz.prog 82 (.rlVType [(146, 150)]) :=
  rlVType_sound (e := ReflectliteValue.methodAny (ReflectliteValue.valueError "reflectlite.Value.Type" 0) fun t _ _ _ => ReflectliteType.toType t) rfl globals_lt (by kernel_rfl) (by kernel_rfl) (all1 fun a w => by kernel_rfl)
theorem x83 : ExtSound CC Tryz.prog 83 (.rlIsNil [(146, 150)]) :=
  rlIsNil_sound rfl globals_lt (by kernel_rfl) (by kernel_rfl) (all1 fun a w => by kernel_rfl) (all1 (by decide))
theorem x149 : ExtSound CC Tryz.prog 149 (.rlTypeOf [(188, ()), (33, ())]) :=
  rlTypeOf_sound rfl globals_lt (by kernel_rfl) (by kernel_rfl) (all2 (fun w => by kernel_rfl) (fun w => by kernel_rfl))
theorem x150 : ExtSound CC Tryz.prog 150 (.rlVElem [(146, 150, 33, 386)]) :=
  rlVElem_sound rfl globals_lt (by kernel_rfl) (by kernel_rfl) (all1 fun a w => by kernel_rfl) (all1 (by decide)) (all1 fun w => by kernel_rfl) (all1 fun a w => by kernel_rfl)
theorem x151 : ExtSound CC Tryz.prog 151 (.rlSet [(33, 386, 130)]) :=
  rlSet_sound rfl globals_lt (by kernel_rfl) (by kernel_rfl) (all1 fun a w => ⟨by kernel_rfl, by kernel_rfl⟩) (all1 (by decide)) (all1 fun w => by kernel_rfl)
theorem x610 : ExtSound CC Tryz.prog 610 (.rlTKind [(33, 2), (146, 22)]) :=
  rlTKind_sound (e := ReflectliteType.abiMethod fun t => do pure (.int .u8 (← Rtype.kind t))) rfl globals_lt (by kernel_rfl) (by kernel_rfl) (all2 (fun w => by kernel_rfl) (fun w => by kernel_rfl))
theorem x641 : ExtSound CC Tryz.prog 641 (.rlAssignable [(188, 33, false), (33, 33, true)]) :=
  rlAssignable_sound (e := ReflectliteType.relation "AssignableTo" ReflectliteType.assignableTo) rfl globals_lt (by kernel_rfl) (by kernel_rfl) (all2 (fun w => by kernel_rfl) (fun w => by kernel_rfl))
theorem x643 : ExtSound CC Tryz.prog 643 (.rlElem [(146, 33)]) :=
  rlElem_sound rfl globals_lt (by kernel_rfl) (by kernel_rfl) (all1 fun w => by kernel_rfl)
theorem x644 : ExtSound CC Tryz.prog 644 (.rlImplements [(33, 142, true)]) :=
  rlImplements_sound (e := ReflectliteType.relation "Implements" ReflectliteType.implements_) rfl globals_lt (by kernel_rfl) (by kernel_rfl) (all1 fun w => by kernel_rfl)
end

theorem w545 : InsWalks Tryz.prog 545 578 272 3 6 := ⟨ins545_place, ins545_end, ins545_grow⟩
theorem w547 : InsWalks Tryz.prog 547 580 273 3 6 := ⟨ins547_place, ins547_end, ins547_grow⟩

theorem cc_insert : ∀ f t, lookN insT f = some t → ∀ args s v s', runCon CC t s args = some (v, s') → ∀ base ρ w cargs, HR Tryz.prog base ρ s w → VRs ρ args cargs →
    Calls Tryz.prog f ⟨cargs⟩ w fun e w' => ∃ c ρ', e = .returned c ∧ Goes Tryz.prog base ρ s w ρ' s' w' ∧ VR ρ' v c := by
  intro f t h args s v s' hv base ρ w cargs hr ha
  have h := lookN_mem h
  unfold insT at h
  rcases List.mem_cons.1 h with h | h
  · cases h
    exact conPure_sound cb_ok at_hrun hv hr ha
  rcases List.mem_cons.1 h with h | h
  · cases h
    exact conPure_sound cb_ok rot_hrun hv hr ha
  rcases List.mem_cons.1 h with h | h
  · cases h
    exact conOne_sound cp_ok theta_hrun hv hr ha
  rcases List.mem_cons.1 h with h | h
  · cases h
    exact conOne_sound cp_ok rho_hrun hv hr ha
  rcases List.mem_cons.1 h with h | h
  · cases h
    exact conOne_sound cp_ok chi_hrun hv hr ha
  rcases List.mem_cons.1 h with h | h
  · cases h
    exact conPure_sound cp_ok rc_hrun hv hr ha
  rcases List.mem_cons.1 h with h | h
  · cases h
    exact conPure_sound cb_ok eight_hrun hv hr ha
  rcases List.mem_cons.1 h with h | h
  · cases h
    exact conOne_sound cb_ok word_hrun hv hr ha
  rcases List.mem_cons.1 h with h | h
  · cases h
    exact insert_sound (C := CC) (sz := 6) (ps := #[272, 272]) (rs := #[4]) w545 rfl (by kernel_rfl) (by kernel_rfl) (by kernel_rfl) (by kernel_rfl) (by kernel_rfl) rfl (by kernel_rfl) hv hr ha
  rcases List.mem_cons.1 h with h | h
  · cases h
    exact insert_sound (C := CC) (sz := 6) (ps := #[273, 273]) (rs := #[4]) w547 rfl (by kernel_rfl) (by kernel_rfl) (by kernel_rfl) (by kernel_rfl) (by kernel_rfl) rfl (by kernel_rfl) hv hr ha
  exact absurd h List.not_mem_nil

/-- each of the list's entries is sound -/
def AllExt (P : Program) (C : Cfg) : List (Nat × Ext) → Prop
  | [] => True
  | q :: l => ExtSound C P q.1 q.2 ∧ AllExt P C l
theorem ext_all {P : Program} {C : Cfg} : ∀ {l : List (Nat × Ext)}, AllExt P C l → ∀ f e, lookN l f = some e → ExtSound C P f e := by
  intro l hl f e h
  replace h := lookN_mem h
  induction l with
  | nil => cases h
  | cons q l ih =>
    rcases List.mem_cons.1 h with h | h
    · subst h; exact hl.1
    · exact ih hl.2 h

theorem cc_ok : CfgOk CC Tryz.prog := cfg_ok (ext := lookN extT) (ins := lookN insT) rfl cc_insert (ext_all (l := extT) ⟨x81, x82, x83, x149, x150, x151, x610, x641, x643, x644, add64_sound (by kernel_rfl) (by kernel_rfl), sub64_sound (by kernel_rfl) (by kernel_rfl), cmp_sound (by kernel_rfl) (by kernel_rfl), trivial⟩)
end Go.Ax

