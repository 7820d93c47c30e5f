import Derived.Test.YtifhpiilobkjiaaGreatDoorDv
import Derived.Test.YtifhpiilobkjiaaGreatDoorDf
set_option maxRecDepth 1000000
namespace Go.Ax
open Go Go.Proofs
/-- The same, with one contract more: what awake says. -/
noncomputable def insA : List (Nat × Con) := (6, .closed laidOk) :: insX2
noncomputable def CA : Cfg := { CB with ext := lookN extT, insert := lookN insA }
theorem ca_insert : ∀ f t, lookN insA f = some t → ∀ args s v s', runCon CA t s args = some (v, s') → ∀ base ρ w cargs, HR Tryz.prog base ρ s w → VRs ρ args cargs →
    Calls Tryz.prog f ⟨cargs⟩ w fun e w' => ∃ c ρ', e = .returned c ∧ Goes Tryz.prog base ρ s w ρ' s' w' ∧ VR ρ' v c := by
  intro f t h args s v s' hv base ρ w cargs hr ha
  have h' : sel (Nat.beq 6 f) (some (Con.closed laidOk)) (lookN insX2 f) = some t := h
  rw [sel_eq] at h'
  split at h'
  · rename_i hb
    cases h'
    have hf : 6 = f := Nat.eq_of_beq_eq_true hb
    subst hf
    unfold runCon at hv
    cases args with
    | nil =>
      obtain ⟨hk, hv⟩ := guard_some.1 hv
      cases hv
      cases ha
      exact (calls6 (laidOk_laid hr hk)).mono fun e w' ⟨he, hb⟩ => ⟨_, ρ, he, Goes.of_below hr hb, .bool _⟩
    | cons a l => cases hv
  · cases t with
    | insert e => exact cx2_insert f _ h' args s v s' hv base ρ w cargs hr ha
    | closed ok => exact cx2_insert f _ h' args s v s' hv base ρ w cargs hr ha
    | fn F => exact cx2_insert f _ h' args s v s' hv base ρ w cargs hr ha
    | pure G => exact cx2_insert f _ h' args s v s' hv base ρ w cargs hr ha
theorem ca_ok : CfgOk CA Tryz.prog := cfg_ok (ext := lookN extT) (ins := lookN insA) rfl ca_insert (fun f e h base ρ s s' w args cargs v hr ha hv => cc_ok.ext f e h base ρ s s' w args cargs v hr ha hv)
end Go.Ax

