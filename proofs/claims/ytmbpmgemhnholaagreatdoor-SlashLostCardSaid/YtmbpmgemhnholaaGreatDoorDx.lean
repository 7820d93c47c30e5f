import Derived.Test.YtmbpmgemhnholaaGreatDoorDg
import Derived.Test.YtmbpmgemhnholaaGreatDoorDw
import Derived.Test.YtmbpmgemhnholaaGreatDoorDh
set_option maxRecDepth 1000000
namespace Go.Ax
open Go Go.Proofs

noncomputable def extT : List (Nat × Ext) := [(223, .add64), (239, .sub64)]
noncomputable def insT : List (Nat × Con) := [(220, .insert 245), (230, .insert 248)]
noncomputable def CC : Cfg := { CB with ext := lookN extT, insert := lookN insT }
theorem all1 {α : Type} {a : α} {p : α → Prop} (h : p a) : ∀ q ∈ [a], p q := fun q hq => by
  rcases List.mem_cons.1 hq with e | e
  · exact e ▸ h
  · exact absurd e List.not_mem_nil
theorem all2 {α : Type} {a b : α} {p : α → Prop} (h : p a) (k : p b) : ∀ q ∈ [a, b], p q := fun q hq => by
  rcases List.mem_cons.1 hq with e | e
  · exact e ▸ h
  · exact all1 k q e
section
open Go.Extern

end

theorem w220 : InsWalks Tryz.prog 220 245 88 3 6 := ⟨ins220_place, ins220_end, ins220_grow⟩
theorem w230 : InsWalks Tryz.prog 230 253 89 3 6 := ⟨ins230_place, ins230_end, ins230_grow⟩

theorem cc_insert : ∀ f t, lookN insT f = some t → ∀ args s v s', runCon CC t s args = some (v, s') → ∀ base ρ w cargs, HR Tryz.prog base ρ s w → VRs ρ args cargs →
    Calls Tryz.prog f ⟨cargs⟩ w fun e w' => ∃ c ρ', e = .returned c ∧ Goes Tryz.prog base ρ s w ρ' s' w' ∧ VR ρ' v c := by
  intro f t h args s v s' hv base ρ w cargs hr ha
  have h := lookN_mem h
  unfold insT at h
  rcases List.mem_cons.1 h with h | h
  · cases h
    exact insert_sound (C := CC) (sz := 6) (ps := #[88, 88]) (rs := #[4]) w220 rfl (by kernel_rfl) (by kernel_rfl) (by kernel_rfl) (by kernel_rfl) (by kernel_rfl) rfl (by kernel_rfl) hv hr ha
  rcases List.mem_cons.1 h with h | h
  · cases h
    exact insert_sound (C := CC) (sz := 6) (ps := #[89, 89]) (rs := #[4]) w230 rfl (by kernel_rfl) (by kernel_rfl) (by kernel_rfl) (by kernel_rfl) (by kernel_rfl) rfl (by kernel_rfl) hv hr ha
  exact absurd h List.not_mem_nil

/-- each of the list's entries is sound -/
def AllExt (P : Program) (C : Cfg) : List (Nat × Ext) → Prop
  | [] => True
  | q :: l => ExtSound C P q.1 q.2 ∧ AllExt P C l
theorem ext_all {P : Program} {C : Cfg} : ∀ {l : List (Nat × Ext)}, AllExt P C l → ∀ f e, lookN l f = some e → ExtSound C P f e := by
  intro l hl f e h
  replace h := lookN_mem h
  induction l with
  | nil => cases h
  | cons q l ih =>
    rcases List.mem_cons.1 h with h | h
    · subst h; exact hl.1
    · exact ih hl.2 h

theorem cc_ok : CfgOk CC Tryz.prog := cfg_ok (ext := lookN extT) (ins := lookN insT) rfl cc_insert (ext_all (l := extT) ⟨add64_sound (by kernel_rfl) (by kernel_rfl), sub64_sound (by kernel_rfl) (by kernel_rfl), trivial⟩)
end Go.Ax

