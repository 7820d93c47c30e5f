import Derived.Test.YtnhpghifaafnkaaGreatDoorDp
set_option maxRecDepth 1000000
namespace Go.Ax
open Go Go.Proofs
/-- The same, with one contract more: what awake says. -/
noncomputable def insT1 : List (Nat × Con) := (4, .closed laidOk) :: insTM
noncomputable def CC1 : Cfg := { CB with ext := lookN extT, insert := lookN insT1 }
theorem cc1_insert : ∀ f t, lookN insT1 f = some t → ∀ args s v s', runCon CC1 t s args = some (v, s') → ∀ base ρ w cargs, HR Tryz.prog base ρ s w → VRs ρ args cargs →
    Calls Tryz.prog f ⟨cargs⟩ w fun e w' => ∃ c ρ', e = .returned c ∧ Goes Tryz.prog base ρ s w ρ' s' w' ∧ VR ρ' v c := by
  intro f t h args s v s' hv base ρ w cargs hr ha
  have h' : sel (Nat.beq 4 f) (some (Con.closed laidOk)) (lookN insTM f) = some t := h
  rw [sel_eq] at h'
  split at h'
  · rename_i hb
    cases h'
    have hf : 4 = f := Nat.eq_of_beq_eq_true hb
    subst hf
    unfold runCon at hv
    cases args with
    | nil =>
      obtain ⟨hk, hv⟩ := guard_some.1 hv
      cases hv
      cases ha
      exact (calls4 (laidOk_laid hr hk)).mono fun e w' ⟨he, hb⟩ => ⟨_, ρ, he, Goes.of_below hr hb, .bool _⟩
    | cons a l => cases hv
  · cases t with
    | insert e => exact cm_insert f _ h' args s v s' hv base ρ w cargs hr ha
    | closed ok => exact cm_insert f _ h' args s v s' hv base ρ w cargs hr ha
    | fn F => exact cm_insert f _ h' args s v s' hv base ρ w cargs hr ha
    | pure G => exact cm_insert f _ h' args s v s' hv base ρ w cargs hr ha
theorem cc1_ok : CfgOk CC1 Tryz.prog := cfg_ok (ext := lookN extT) (ins := lookN insT1) rfl cc1_insert (fun f e h base ρ s s' w args cargs v hr ha hv => cc_ok.ext f e h base ρ s s' w args cargs v hr ha hv)
end Go.Ax

