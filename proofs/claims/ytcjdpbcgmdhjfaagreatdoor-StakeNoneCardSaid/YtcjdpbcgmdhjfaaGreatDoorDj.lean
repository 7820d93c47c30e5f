import Derived.Test.YtcjdpbcgmdhjfaaGreatDoorDi
set_option maxRecDepth 1000000
namespace Go.Ax
open Go Go.Proofs
theorem run19 (t : TypeId) : isTrue ((jRunN CC 200).1 19 [] (st1 t)) = true := by kernel_rfl
theorem calls19 {W : World} (hL : Laid W) : Calls Tryz.prog 19 #[] W fun e w' => e = .returned (.bool true) ∧ RowKit.Below W.heap.size W w' := calls_of_runL cc_ok run19 .nil hL
end Go.Ax

set_option maxRecDepth 1000000
namespace Go.Ax
open Go Go.Proofs

/-- The same configuration, one contract more: what distraintlaw18's awake says. -/
noncomputable def insT1 : List (Nat × Con) := [(211, .insert 205), (296, .insert 211), (19, .closed laidOk)]
noncomputable def CC1 : Cfg := { P := Tryz.prog, ext := lookN extT, rtype := 420, body := bodyT, params := fun _ => [], results := resultsT, vars := varsT, insert := lookN insT1, eqOk := memN eqL, order := orderT }

theorem cc1_insert : ∀ f t, lookN insT1 f = some t → ∀ args s v s', runCon CC1 t s args = some (v, s') → ∀ base ρ w cargs, HR Tryz.prog base ρ s w → VRs ρ args cargs →
    Calls Tryz.prog f ⟨cargs⟩ w fun e w' => ∃ c ρ', e = .returned c ∧ Goes Tryz.prog base ρ s w ρ' s' w' ∧ VR ρ' v c := by
  intro f t h args s v s' hv base ρ w cargs hr ha
  have h := lookN_mem h
  unfold insT1 at h
  rcases List.mem_cons.1 h with h | h
  · cases h
    exact insert_sound (C := CC1) (sz := 6) (ps := #[64, 64]) (rs := #[4]) w211 rfl (by kernel_rfl) (by kernel_rfl) (by kernel_rfl) (by kernel_rfl) (by kernel_rfl) rfl (by kernel_rfl) hv hr ha
  · rcases List.mem_cons.1 h with h | h
    · cases h
      exact insert_sound (C := CC1) (sz := 6) (ps := #[65, 65]) (rs := #[4]) w296 rfl (by kernel_rfl) (by kernel_rfl) (by kernel_rfl) (by kernel_rfl) (by kernel_rfl) rfl (by kernel_rfl) hv hr ha
    · rcases List.mem_cons.1 h with h | h
      · cases h
        unfold runCon at hv
        cases args with
        | nil =>
          obtain ⟨hk, hv⟩ := guard_some.1 hv
          cases hv
          cases ha
          exact (calls19 (laidOk_laid hr hk)).mono fun e w' ⟨he, hb⟩ => ⟨_, ρ, he, Goes.of_below hr hb, .bool _⟩
        | cons a l => cases hv
      · exact absurd h List.not_mem_nil

theorem cc1_ok : CfgOk CC1 Tryz.prog where
  prog := rfl
  zero := cc_ok.zero
  fields := cc_ok.fields
  eq := eqChk_ok (l := eqL) (fun _ h => memN_mem h) (by kernel_rfl)
  byte := cc_ok.byte
  globals := cc_ok.globals
  body := cc_ok.body
  mix := cc_ok.mix
  insert := cc1_insert
  ext := fun f e h base ρ s s' w args cargs v hr ha hv => cc_ok.ext f e h base ρ s s' w args cargs v hr ha hv
end Go.Ax

